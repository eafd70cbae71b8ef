/- The walks, part 7. By program. -/
import Derived.Test.YtgbippnfaoedmaaGreatDoorFns6BG
set_option linter.unusedVariables false
set_option linter.unusedSimpArgs false
open Int renaming toNat → zq
open Go.IntKind renaming bits → zA, i64 → zB, wrap → zr
open List renaming cons_append → zy, nil_append → zz
open Option.some renaming inj → zt
open Go.Wk.Ow renaming nil → zC
open Sum renaming inr → zw
namespace Go.Proofs.YtgbippnfaoedmaaGreatDoor
open Tryz
open Go Go.Wk Go.Proofs
set_option maxRecDepth 100000
set_option maxHeartbeats 1000000
section
variable {w:World}{J:Col}
theorem rB {B A}{p0:dice}{p1:Int}{C}(cb:Rd (Rp.int .u8) J w 0 B A p0.b) (cc:Bc J w 2 C 43 [.slice B p0.b.length A,vi p0.i,.int .u64 p0.h]){r:Parity×Int×Int}(h:kq p0 p1=some r):Ret prog 6 [.pointer (some ⟨C,0,none⟩),vi p1] w (λcB a=>∃(b:Col) (ba:Option Addr) (bd:Nat) (bb:Option Addr) (be:Nat) (bc:Option Addr) (bf:Nat),cB= .agg #[.slice ba r.1.Arena.Owner.length bd,.slice bb r.1.Arena.Next.length be,.slice bc r.1.Prio.length bf]/\Ent J w b a/\Oc E6 2 b a 3 ba bd r.1.Arena.Owner/\Oc (Ep.fz Rs) 27 b a 4 bb be r.1.Arena.Next/\Oc E6 2 b a 5 bc bf r.1.Prio/\Bc b a 2 C 43 [.slice B p0.b.length A,vi r.2.1,.int .u64 r.2.2]):=by
 unfold kq at h
 refine Jp3 J func6 R ntmps6 R λcd=>Jj3<|Jy3 J 3 R X32 R λcP c0 bq ar b3=>Tv<|Jd<|Jl3 2 R<|Ob h λT cm h=>?_
 have a3:=cb.stp ar
 refine Jw3 R call12 (di (J:=λd=>mp [(2,2)] 0<|bq d) (p0:=p0) (Jm2 a3 (mp [(2,2)] 0) R R) ((cc.stp ar).map (mp [(2,2)] 0) R R) cm) ?_
 rintro _ dl ⟨cW,rfl,bI,bJ⟩
 obtain⟨bi,aq,cw⟩:=Ji bI 4 R
 refine Tv<|Jb 2 R<|Jj3<|Jf R (Jn4 [.slice none 0 0,.slice none 0 0,.slice none 0 0] R)<|Jy3 bi 7 R X32 R λaS db V W bW=>Tv<|Jm4 V 7 R Z32 R bW R λbg X bX=>Tv<|Jd<|Jq<|Jf3 R<|Ob h λ_ ck h=>?_
 have cg:=ku ck
 refine Ob h λa8 ci ce=>?_
 clear h
 refine Jt3 [0,4,6] (λq s a=>∃b,∃i:Int×Int×VI×VV×VI,∃aj Y ab ah ad al,s=q/\Stp [6,7,8,9,10,11,14,17,18,19,22] V bg b a/\Oc E6 2 b a 8 aj Y i.2.2.1/\Oc (Ep.fz<|Rs) 27 b a 9 ab ah i.2.2.2.1/\Oc E6 2 b a 10 ad al i.2.2.2.2/\Bc b a 6 C 43 [.slice B p0.b.length A,vi i.1,.int .u64 i.2.1]/\Bc b a 7 aS 32 [.slice aj i.2.2.1.length Y,.slice ab i.2.2.2.1.length ah,.slice ad i.2.2.2.2.length al]/\a8=zw i) ?_ ?_
 refine Jv<|Ju3 [0,4,5,6] (λg q s a=>∃b p,∃c:Int×Int×VI×VV×VI,∃ak ac P O I H,s=(7,vi p)::q/\Stp [6,7,8,9,10,11,14,17,18,19,22] V bg b a/\Oc E6 2 b a 8 ak ac c.2.2.1/\Oc (Ep.fz<|Rs) 27 b a 9 P O c.2.2.2.1/\Oc E6 2 b a 10 I H c.2.2.2.2/\Bc b a 6 C 43 [.slice B p0.b.length A,vi c.1,.int .u64 c.2.1]/\Bc b a 7 aS 32 [.slice ak c.2.2.1.length ac,.slice P c.2.2.2.1.length O,.slice I c.2.2.2.2.length H]/\0<=p/\zq ((zr .i64 (1+T.1))-p)=g/\cntM (gV p0 T) g p c=some a8) ⟨_,_,⟨V,0,(T.2.1,T.2.2,([]:VI),([]:VV),([]:VI)),none,0,none,0,none,0,R,Jo3,zC,zC,zC,((bJ.mx cw R (R:4+2=6)).stp (W.tr X)),bX,(by decide),(by simp),ci⟩,(KM R)⟩ ?_
 rintro g _ dh ⟨aK,p,c,ak,ac,P,O,I,H,rfl,au,aY,aZ,a0,a1,a2,ch,a6,h⟩
 rcases g with _|g
 have am:=h;obtain⟨cA,h⟩:=exq am
 have K:=dcf a6
 refine Jq<|Jf3 R<|Jx2 R K<|Jc1<|Jt<|Jt ?_
 cases h
 have h:=am
 refine Jb1 ?_
 cases h
 exact Jw1 _ ⟨aK,(c.1,c.2.1,c.2.2.1,c.2.2.2.1,c.2.2.2.2),ak,ac,P,O,I,H,R,au.wk R,aY,aZ,a0,a1,a2,R⟩<|KM R
 obtain⟨cA,h,am⟩:=BI h;unfold gV at h
 have K:=dct a6
 refine Jq<|Jf3 R<|Jw2 R K<|Js<|Jp<|Jq<|Jv<|Jj3<|Jc4 aK E6 11 R Y27 aR R λbB bz dj bs G b4=>Tv<|Jb 1 R<|Jq<|Jl3 1 R<|Ob h λaC cn h=>?_
 have aA:=a3.stp (T5 aq W X au G)
 refine Jw3 R call12 (di (J:=λd=>mp [(6,2)] 0<|bs d) (p0:=(⟨p0.b,c.1,c.2.1⟩:dice)) (Jm2 aA (mp [(6,2)] 0) R R) ((a1.stp G).map (mp [(6,2)] 0) R R) cn) ?_
 rintro _ aB ⟨cU,rfl,bG,b5⟩
 obtain⟨bt,y,cy⟩:=Ji bG 12 R
 refine Tv<|Jb 2 R<|Ob h λa9 cj cf=>?_
 clear h
 obtain⟨ap,z,cF⟩:=b9 bt aB 11
 refine Jt3 [0,4,5,6,7] (λq s a=>∃b,∃j:VI×Int×Int×Int,∃Z ae,s=(8,.slice Z j.1.length ae)::q/\Stp [14,17,18] ap aB b a/\Rd Ri b a 0 Z ae j.1/\Bc b a 14 C 43 [.slice B p0.b.length A,vi j.2.2.1,.int .u64 j.2.2.2]/\a9=zw j) ?_ ?_
 refine Jv<|Ju3 [0,4,5,6,7] (λg q s a=>∃b,∃e:VI×Int×Int×Int,∃ai af,s=(8,.slice ai e.1.length af)::(9,vi e.2.1)::q/\Stp [14,17,18] ap aB b a/\Rd Ri b a 0 ai af e.1/\Bc b a 14 C 43 [.slice B p0.b.length A,vi e.2.2.1,.int .u64 e.2.2.2]/\bn (cV p0 T) g e=some a9) ⟨_,_,⟨ap,(([]:VI),((zr .i64 (1+aC.1)):Int),aC.2.1,aC.2.2),bB,bz,R,Jo3,(Sl.st cF (b4.stp y).rdc),((b5.mx cy R (R:12+2=14)).stp z),cj⟩,(KM R)⟩ ?_
 rintro g _ dm ⟨aM,e,ai,af,rfl,av,a4,a5,h⟩
 rcases g with _|g
 cases h
 obtain⟨cZ,h,a7⟩:=BI h;unfold cV at h
 refine Jq<|Jf3 R ?_
 revert h
 cases cQ:decide (0<e.2.1)
 refine JF λh=>Jy R<|Jc1<|Jt<|Jt ?_
 cases h
 have h:=a7
 refine Jb1 ?_
 cases h
 exact Jw1 _ ⟨aM,(e.1,e.2.1,e.2.2.1,e.2.2.2),ai,af,R,av.wk R,a4,a5,R⟩<|KM R
 refine JT λh=>Jx R<|Js<|Jp<|Jq<|Jv<|Jm3 3 R<|Ob h λaD co h=>Jw3 R call12 (di (J:=λd=>mp [(14,2)] 0<|aM d) (p0:=(⟨p0.b,e.2.2.1,e.2.2.2⟩:dice)) (Jm2 (aA.stp<|T3 y z av) (mp [(14,2)] 0) R R) (a5.map (mp [(14,2)] 0) R R) co) ?_
 rintro _ dn ⟨cX,rfl,bH,b8⟩
 obtain⟨bu,aQ,cz⟩:=Ji bH 15 R
 refine Tv<|Ji4 bu 18 [aD.1] R Y27 aR R λcM cO cC bw aw ca=>Tv<|?_
 obtain⟨bx,ax,cG⟩:=b9 bw cC 18
 refine Ob h λcD cp h=>Jw3 R call13 (rO (J:=λd=>mp [] 1<|bx d) (Jm2 (a4.stp<|T3 aQ aw ax) (mp [] 1) R R) (Jm2 (Sl.st cG ca.rdc) (mp [] 1) R R) cp) ?_
 rintro _ dp ⟨cR,bC,bA,rfl,bD,bK⟩
 obtain⟨bh,aO,cY,cE⟩:=Jj bD 19 R
 refine Tv<|Jc 1 R<|Jz<|Jp<|Jg3 R ?_
 cases h
 exact Ja2 ⟨(λd=>ren [(17,14)]<|bh d),(cD,((zr .i64<|e.2.1-1):Int),aD.2.1,aD.2.2),bC,bA,R,(Jz2 ((T5 av aQ aw ax aO).wk R) [(17,14)] R),((bK.mx cE).map (ren [(17,14)]) R R),(((b8.mx cz R (R:15+2=17)).stp (T3 aw ax aO)).map (ren [(17,14)]) R R),a7⟩ R
 rintro _ dk ⟨aL,j,Z,ae,rfl,N,b6,b7,rfl⟩
 have h:=yI cf
 refine Jp<|Jq<|Js1 (J:=aL) [7] (some 9) [(0,2),(1,2),(3,2),(2,0),(4,1),(5,1),(6,1),(7,2),(8,2)] [(9,1)] (by kernel_rfl) (by kernel_rfl) λc1 t=>Je3 R U32 R Z30<|Je3 R U30 R Z27<|Jn 1 R ?_
 have aT:=a2.stp (T5 G y z N t)
 refine Jg R (Jd2 I27 R R<|hvC (aT.ld 0 R R) R)<|Ob h λaE cq h=>?_
 have aU:=aA.stp (T4 y z N t)
 refine Jw3 R call12 (di (J:=λd=>mp [(14,2)] 0<|aL d) (p0:=(⟨p0.b,j.2.2.1,j.2.2.2⟩:dice)) (Jm2 aU (mp [(14,2)] 0) R R) ((b7.stp t).map (mp [(14,2)] 0) R R) cq) ?_
 rintro _ c2 ⟨cS,rfl,bE,bL⟩
 obtain⟨bj,k,cv⟩:=Ji bE 15 R
 have aN:=(T6 G y z N t k)
 refine⟨(k.cl R),Ji4 bj 18 [aE.1] R Y27 aR R λcL cJ c3 bk f bM=>⟨((k.tr f).cl R),Ob h λU cr h=>Jd4 bk E6 8 [] R Y27 aR R (aY.stp<|aN.tr f) (Sl.srcP (bo _) bM.rdc) aV cr R λQ S c4 aH m bN=>⟨((T3 k f m).cl R),Je3 R U32 R Z30<|Je3 R U30 R Z27<|Jt1<|Jz3 aH 7 (off:=0) (vc:=[.slice Q U.length S]) (cs':=[.slice Q U.length S,.slice P c.2.2.2.1.length O,.slice I c.2.2.2.2.length H]) R Z27 R (aT.stp<|T3 k f m) R λc5 u aW=>Tv<|Jd<|Jj3<|Je3 R U32 R Z30<|Je3 R U30 R Z28<|Jc3 R I28 (aW.ld 1 R R)<|Jn 1 R<|Jb4 aH (Ep.fz<|Rs) 19 [] (parts:=[(0,.tmp 46)]) (cells:=[.slice Z j.1.length ae]) (xs:=([j.1]:VV)) R Y28 br R (Jj4 ⟨_,_,R,(Sl.z1<|b6.stp<|T5 t k f m u)⟩) λcN cK c6 bl v bO=>Tv<|Ob h λan cs h=>Jd4 bl (Ep.fz<|Rs) 9 [19] R Y28 br R (aZ.stp<|T5 aN f m u v) bO.src (lJ R) cs R λaa ag c7 ao D bP=>Tv<|Je3 R U32 R Z30<|Je3 R U30 R Z28<|Jz3 ao 7 (off:=1) (vc:=[.slice aa an.length ag]) (cs':=[.slice Q U.length S,.slice aa an.length ag,.slice I c.2.2.2.2.length H]) R Z28 R (aW.stp<|v.tr D) R λc8 E bQ=>Tv<|Jd<|Js1 (J:=ao) [7] (some 7) [(0,2),(2,2),(1,0),(3,1),(4,1),(5,1),(6,2)] [(7,1)] (by kernel_rfl) (by kernel_rfl) λc9 x=>Je3 R U32 R Z27<|Jn 1 R ?_⟩⟩⟩
 have aX:=bQ.stp x
 refine Jg R (Jd2 I27 R R<|hvC (aX.ld 2 R R) R)<|Ob h λaF ct h=>Jw3 R call12 (di (J:=λd=>mp [(17,2)] 0<|ao d) (p0:=(⟨p0.b,aE.2.1,aE.2.2⟩:dice)) (Jm2 (aU.stp<|T8 k f m u v D E x) (mp [(17,2)] 0) R R) (((bL.mx cv R (R:15+2=17)).stp (T7 f m u v D E x)).map (mp [(17,2)] 0) R R) ct) ?_
 rintro _ da ⟨cT,rfl,bF,bR⟩
 obtain⟨bm,n,cx⟩:=Ji bF 20 R
 refine⟨(n.cl R),Ji4 bm 23 [aF.1] R Y27 aR R λcH cI dc bp o bS=>⟨((n.tr o).cl R),Ob h λaG cu h=>Jd4 bp E6 10 [] R Y27 aR R (a0.stp<|T15 G y z N t k f m u v D E x n o) (Sl.srcP (bo _) bS.rdc) aV cu R λay az dd aI F bT=>⟨((T3 n o F).cl R),Je3 R U32 R Z27<|Jt1<|Jz3 aI 7 (off:=2) (vc:=[.slice ay aG.length az]) (cs':=[.slice Q U.length S,.slice aa an.length ag,.slice ay aG.length az]) R Z27 R (aX.stp<|T3 n o F) R λde L bU=>Tv<|Jo<|Jz<|Jp<|Jg3 R ?_⟩⟩⟩
 have cl:zr .i64 (p+1)=p+1:=wr1 ch (Jn2 K) cg
 rw[cl]
 have K:=Jn2 K
 cases h
 exact Ja2 ⟨(λd=>ren [(22,6)]<|aI d),p+1,(aF.2.1,aF.2.2,U,an,aG),Q,S,aa,ag,ay,az,R,(Jz2 ((au.tr<|G.tr<|y.tr<|z.tr<|N.tr<|t.tr<|k.tr<|f.tr<|m.tr<|u.tr<|v.tr<|D.tr<|E.tr<|x.tr<|n.tr<|o.tr<|F.tr L).wk R) [(22,6)] R),((bN.stp<|T9 u v D E x n o F L).map (ren [(22,6)]) R R),((bP.stp<|T6 E x n o F L).map (ren [(22,6)]) R R),((bT.stp L).map (ren [(22,6)]) R R),(((bR.mx cx R (R:20+2=22)).stp (T3 o F L)).map (ren [(22,6)]) R R),(bU.map (ren [(22,6)]) R R),by omega,by omega,am⟩ R
 rintro _ dg ⟨aJ,i,aj,Y,ab,ah,ad,al,rfl,aP,bY,bZ,b0,b1,b2,rfl⟩
 have h:=yI ce
 refine Jp<|Jj3<|Jg4 tv R (Jh4 (haE b2.cells) I32 Z32 R)<|Jm4 aJ 3 R Z32 R (b3.stp<|T4 aq W X aP) R λdf M bV=>Tv<|Jd<|Ju<|Jb2 (l:=[.cell 4 32]) results6 (bv R bV I32 Z32 R R) R ?_
 cases h
 exact⟨(λd=>ren [(8,3),(9,4),(10,5),(6,2)]<|aJ d),aj,Y,ab,ah,ad,al,R,((cd.stp<|T6 ar aq W X aP M).map (ren [(8,3),(9,4),(10,5),(6,2)]) R R),((bY.stp M).map (ren [(8,3),(9,4),(10,5),(6,2)]) R R),((bZ.stp M).map (ren [(8,3),(9,4),(10,5),(6,2)]) R R),((b0.stp M).map (ren [(8,3),(9,4),(10,5),(6,2)]) R R),((b1.stp M).map (ren [(8,3),(9,4),(10,5),(6,2)]) R R)⟩
theorem pp {v p s u q t}{p0:Parity}{o B}{p1:VI}(W:Rd Ri J w 0 v p p0.Arena.Owner) (X:Rd Rs J w 0 s u p0.Arena.Next) (Y:Rd Ri J w 0 q t p0.Prio) (Z:Rd Ri J w 0 o B p1){r:Bool}(h:iM p0 p1=some r):Ret prog 30 [.agg #[.slice v p0.Arena.Owner.length p,.slice s p0.Arena.Next.length u,.slice q p0.Prio.length t],.slice o p1.length B] w (Pvb J w r):=by
 unfold iM at h
 refine Jp3 J func30 R ntmps30 R λaa=>Jj3<|Jx3 J 2 R λax aF E c x=>Tv<|Jb 1 R<|Jj3<|Jg4 tv R (Jh4 (haE x.cells) I32 Z32 R)<|Jn 1 R<|Ob h λC ac h=>?_
 have y:=W.stp c
 have z:=X.stp c
 have A:=Y.stp c
 refine Jw3 R call49 (rP (J:=Mk E) (p0:=p0) (Jn3 y) (Jn3 z) (Jn3 A) (Jn3<|Z.stp c) ac) ?_
 rintro _ aM ⟨aA,aw,al,aq,av,ao,ap,rfl,K,O,P,Q⟩
 obtain⟨D,k,n⟩:=Ji K 3 R
 refine Tv<|Jn 3 R<|Jy3 D 8 R X32 R λay aG e f S=>Tv<|Jm4 e 8 R Z32 R S R λaH g T=>Tv<|Jb 1 R<|Jq<|Js1 (J:=e) [2,8] none [(0,2),(1,2),(2,0),(4,0),(3,1),(5,1),(6,1),(7,2),(8,2)] [] (by kernel_rfl) (by kernel_rfl) λaj b=>Jn 2 R<|Ob h λai h ab=>Jk4 [4] 20 ai e aj 6 (Cl.refl _ _ _) ?_ ?_
 revert h
 cases az:C.2
 refine JF λh=>Jf4 R<|Jf4 R<|Je4 R<|Je4 R<|Je4 R<|Jn 1 R ?_
 cases h
 exact Jv1 _ (Cl.refl _ _ _) ⟨R,_,Jo3⟩<|KM R
 have i:=(T3 f g b)
 refine JT λh=>Jg R (Jh4 (haC (T.stp b).cells R) I32 Z32 R)<|Jg R (Jh4 (haC (x.stp<|T4 k f g b).cells R) I32 Z32 R)<|Ob h λaN ad h=>Jw3 R call31 (lH (J:=Mk e) (p0:=C.1) (Jn3 ((O.mx (aT _) n R (R:3+2=5)).stp i).rdc) (Jn3 ((P.mx (ie (aT _) _) n R (R:3+3=6)).stp i).rdc) (Jn3 ((Q.mx (aT _) n R (R:3+4=7)).stp i).rdc) ad) ?_
 rintro _ aI ⟨aB,an,ar,rfl,L,U⟩
 obtain⟨F,a,ag⟩:=Ji L 9 R
 have j:=(T5 k f g b a)
 refine⟨(a.cl R),Ob h λaO ae h=>Jw3 R call31 (lH (J:=Mk F) (p0:=p0) (Jn3<|y.stp j) (Jn3<|z.stp j) (Jn3<|A.stp j) ae) ?_⟩
 rintro _ aJ ⟨aC,au,am,rfl,M,V⟩
 obtain⟨G,d,ah⟩:=Ji M 12 R
 refine⟨((a.tr d).cl R),Ob h λaP af h=>Jw3 R call50 (r7 (J:=Mk G) (Jn3 ((U.mx (aT _) ag R (R:9+2=11)).stp d).rdc) (Jn3 (V.mx (aT _) ah R (R:12+2=14)).rdc) af) ?_⟩
 rintro _ aK ⟨aD,rfl,N⟩
 obtain⟨ak,m,aE⟩:=Ji N 15 R
 refine⟨((T3 a d m).cl R),Jn 1 R ?_⟩
 cases h
 exact Jv1 _ ((T3 a d m).cl R) ⟨R,_,(T3 a d m).wk R⟩<|KM R
 rintro _ aL _ ⟨rfl,H,I⟩
 have h:=ab
 refine Jn 1 R<|Jt1<|Jd<|Ju<|Jb2 (l:=[.tmp 4]) results30 (Jq2 R R) R ?_
 cases h
 exact⟨H,R,(aa.stp<|T6 c k f g b I)⟩
theorem jm {aM aL aO aR aN aP}{p0:Parity}{aJ bt}{p1:VI}(ch:Rd Ri J w 0 aM aL p0.Arena.Owner) (ci:Rd Rs J w 0 aO aR p0.Arena.Next) (cj:Rd Ri J w 0 aN aP p0.Prio) (ck:Rd Ri J w 0 aJ bt p1){r:Answer×Bool}(h:iN p0 p1=some r):Ret prog 17 [.agg #[.slice aM p0.Arena.Owner.length aL,.slice aO p0.Arena.Next.length aR,.slice aN p0.Prio.length aP],.slice aJ p1.length bt] w (λcK a=>∃(b:Col) (bp:Option Addr) (br:Nat) (bq:Option Addr) (bs:Nat),cK= .tuple #[.agg #[.slice bp r.1.Won.length br,.slice bq r.1.Plan.length bs],.bool r.2]/\Ent J w b a/\Oc E6 2 b a 2 bp br r.1.Won/\Oc E6 2 b a 3 bq bs r.1.Plan):=by
 unfold iN at h
 refine Jp3 J func17 R ntmps17 R λaz=>Jj3<|Jx3 J 2 R λc4 dk bE y b7=>Tv<|Jy3 bE 3 R X36 R λc5 dA bI x ax=>Tv<|Jb 1 R<|Jq<|Jj3 ?_
 have a4:=b7.stp x
 refine Jg4 tv R (Jh4 (haE a4.cells) I32 Z32 R)<|Jn 1 R<|Ob h λcO cw h=>?_
 have aS:=ch.stp (y.tr x)
 have aU:=ci.stp (y.tr x)
 have aW:=cj.stp (y.tr x)
 have aa:=ck.stp (y.tr x)
 refine Jw3 R call30 (pp (J:=Mk bI) (p0:=p0) (Jn3 aS) (Jn3 aU) (Jn3 aW) (Jn3 aa) cw) ?_
 rintro _ dp ⟨df,rfl,bS⟩
 obtain⟨ai,i,dj⟩:=Ji bS 4 R
 refine Tv<|Jb 1 R ?_
 revert h
 cases da:(!cO)
 refine JF λh=>Jy R<|Js<|Jp<|Jj3 ?_
 have a0:=a4.stp i
 refine Jg4 tv R (Jh4 (haE a0.cells) I32 Z32 R)<|Ob h λaf cx h=>?_
 have a1:=aS.stp i
 have a2:=aU.stp i
 have a3:=aW.stp i
 refine Jw3 R call31 (lH (J:=Mk ai) (p0:=p0) (Jn3 a1) (Jn3 a2) (Jn3 a3) cx) ?_
 rintro _ dy ⟨dh,aQ,aK,rfl,bV,b6⟩
 obtain⟨bG,s,cH⟩:=Ji bV 6 R
 refine Tv<|?_
 have ar:=b6.mx (aT _) cH R (R:6+2=8)
 refine Jb 1 R<|Jj3 ?_
 have au:=a0.stp s
 refine Jg4 tv R (Jh4 (haE au.cells) I32 Z32 R)<|Ob h λc cy h=>?_
 have N:=a1.stp s
 refine Jw3 R call32 (pO (J:=λC=>mp [] 1<|bG C) (p0:=p0) (Jm2 N (mp [] 1) R R) (Jm2 (a2.stp s) (mp [] 1) R R) (Jm2 (a3.stp s) (mp [] 1) R R) cy) ?_
 rintro _ dz ⟨di,c3,cY,cX,cZ,c0,cW,c2,c1,G,H,rfl,bW,b8,ca,cb,cc,cd⟩
 obtain⟨bH,v,bj,aD⟩:=Jj bW 9 R
 refine Tv<|Jy3 bH 16 R X69 R λc6 dB U n ce=>Tv<|Jm4 U 16 R Z69 R ce R λbu o av=>Tv<|Jd<|Jq<|Jf3 R<|Ob h λbm cu a5=>?_
 clear h
 refine Jt3 [2,4,6,7] (λd p a=>∃b,∃S:VI,p=d/\Stp [15] U bu b a/\Oc E6 2 b a 15 G H S/\c.pick.length=S.length/\bm=zw S) ?_ ?_
 refine Jv<|Ju3 [1,2,4,6,7] (λj d p a=>∃b L,∃Q:VI,p=(8,vi L)::d/\Stp [15] U bu b a/\Oc E6 2 b a 15 G H Q/\c.pick.length=Q.length/\0<=L/\zq ((p1.length:Int)-L)=j/\cntM (eD p0 p1 af) j L Q=some bm) ⟨_,_,⟨U,0,c.pick,R,Jo3,((cd.mx (aT _) bj R (R:9+6=15)).stp (n.tr o)),R,(by decide),(by simp),cu⟩,(KM R)⟩ ?_
 rintro j _ dD ⟨aj,L,Q,rfl,A,aw,aC,a7,ac,h⟩
 rcases j with _|j
 have P:=h;obtain⟨cJ,h⟩:=exq P
 have aA:=dcf ac
 refine Jq<|Jl3 2 R<|Js3 R U27 R R<|Jb 1 R<|Jx2 R aA<|Jc1<|Jt<|Jt ?_
 cases h
 have h:=P
 refine Jb1 ?_
 cases h
 exact Jw1 _ ⟨aj,Q,R,A.wk R,aw,aC,R⟩<|KM R
 obtain⟨cJ,h,P⟩:=BI h;unfold eD at h
 have aA:=dct ac
 refine Jq<|Jl3 2 R<|Js3 R U27 R R<|Jb 1 R<|Jw2 R aA<|Js<|Jp<|Jq<|Jv<|Jq<|Jq<|Js1 (J:=aj) [0,2,8] none [(0,2),(1,2),(2,2),(3,0),(4,2),(5,2),(6,2),(7,2),(8,2),(10,2),(11,2),(13,2),(9,0),(12,0),(14,2),(15,0),(16,2),(17,2)] [] (by kernel_rfl) (by kernel_rfl) λcN B=>Jn 2 R<|Ob h λcP a9 h=>Jd3 R aa a9 U27 Z2 ?_
 have ay:=aa.stp (T7 i s v n o A B)
 refine Jg R (Jd2 I2 R R<|hvC (ay.gInt a9) R)<|Jn 2 R<|Ob h λbk h co=>Jk4 [1,2,4,6,7,8] 45 bk aj cN 12 (Cl.refl _ _ _) ?_ ?_
 revert h
 cases db:(cP !=(-1))
 refine JF λh=>Jn 6 R<|Jf4 R<|Jf4 R<|Jn 1 R<|Jf4 R<|Jn 2 R ?_
 cases h
 exact Jv1 _ (Cl.refl _ _ _) ⟨R,_,Jo3⟩<|KM R
 have ak:=(T5 v n o A B)
 refine JT λh=>Jn 2 R<|Ob h λdG ba h=>Jd3 R ar.rdc ba U27 Z2<|Je3 R U32 R Z30<|Je3 R U30 R Z27<|Jn 1 R<|Jg R (Jd2 I2 R R<|hvC ((ar.stp ak).rdc.gInt ba) R)<|Jg R (Jd2 I27 R R<|hvC ((au.stp ak).ld 0 R R) R)<|Ob h λdH bb h=>Jd3 R N bb U27 Z2<|Jg R (Jd2 I2 R R<|hvC ((N.stp ak).gInt bb) R)<|Jn 2 R ?_
 cases h
 exact Jv1 _ (Cl.refl _ _ _) ⟨R,_,Jo3⟩<|KM R
 rintro _ dE _ ⟨rfl,V,F⟩
 have h:=co
 refine Jt1<|Jd ?_
 revert h
 cases dc:bk
 refine JF λh=>Jy R<|Js<|Jp<|Js1 (J:=V) [0,16] none [(0,2),(2,2),(3,2),(4,2),(5,2),(1,0),(6,0),(7,2),(8,1)] [] (by kernel_rfl) (by kernel_rfl) λdl X=>Je3 R U69 R Z27<|Jn 3 R<|Ob h λdI bc h=>Jd3 R ay bc U27 Z2<|Jg R (Jd2 I27 R R<|hvC ((av.stp<|T4 A B F X).ld 4 R R) R)<|Jg R (Jd2 I2 R R<|hvC ((ay.stp<|F.tr X).gInt bc) R)<|Ob h λdJ cz h=>Jf R (Jg2 aw.rdc cz U27 Z2 R R aC R)<|Ob h λbw bh h=>Jk1 (J:=V) (E:=E6) 15 [] R R R R R R R R Z2 R R R R (aw.stp<|T3 B F X) bh λdm bz aH bX=>⟨(aH.cl R),?_⟩
 have cp:c.pick.length=bw.length:=aC.trans (Ju2 bh).2.2.2.symm
 refine Jt1<|Jo<|Jz<|Jp<|Jg3 R<|wr2 a7 ac aa.len_le ▸ ?_
 cases h
 exact Ja2 ⟨bz,L+1,bw,R,(T5 A B F X aH).wk R,bX,cp,nxz a7,nxm ac,P⟩ R
 refine JT λh=>Jx R<|Jj3<|Jf R (Jn4 [.slice none 0 0,.slice none 0 0] R)<|Jm4 V 3 R Z36 R (ax.stp<|T8 i s v n o A B F) R λdF bL cg=>Tv<|Jb 1 R<|Ju<|Jw<|Ja1<|Jw<|Jw ?_
 cases h
 obtain rfl:=zt P
 have h:=yL a5
 refine Ja1<|Jr2<|Jw<|Jb2 (l:=[.cell 4 36,.tmp 5]) results17 (bv R cg I36 Z36 R<|Jq2 R R) R ?_
 cases h
 exact⟨V,none,0,none,0,R,(az.stp<|T11 y x i s v n o A B F bL),zC,zC⟩
 rintro _ dC ⟨bJ,S,rfl,z,cf,cs,rfl⟩
 have h:=yI a5
 refine Jp<|Jl3 1 R<|Ob h λcQ cA h=>?_
 have aV:=ar.stp (T4 v n o z)
 refine Jw3 R call33 (lm (J:=Mk bJ) (Jn3 aV.rdc) cA) ?_
 rintro _ dn ⟨dd,bO,bM,rfl,bQ,bY⟩
 obtain⟨bA,u,cE⟩:=Ji bQ 17 R
 refine Tv<|Jb 1 R<|Jl3 1 R<|Ob h λcR cB h=>?_
 have D:=aV.stp u
 refine Jw3 R call33 (lm (J:=Mk bA) (Jn3 D.rdc) cB) ?_
 rintro _ ae ⟨de,bN,bP,rfl,bR,bZ⟩
 obtain⟨bB,e,cF⟩:=Ji bR 20 R
 refine Tv<|Jb 1 R<|Jq<|Jf3 R ?_
 obtain⟨bC,f,cU⟩:=b9 bB ae 19
 obtain⟨ag,g,cV⟩:=b9 bC ae 22
 have a6:=D.len_le
 refine Ob h λbn ct cl=>?_
 clear h
 refine Jt3 [4,6,7] (λd p a=>∃b,∃ad:VI,p=d/\Stp [15,25] ag ae b a/\Oc E6 2 b a 15 G H ad/\c.pick.length=ad.length/\bn=zw ad) ?_ ?_
 refine Jv<|Ju3 [2,4,6,7,9,10] (λj d p a=>∃b t,∃E:VI,p=(11,vi t)::d/\Stp [15,25] ag ae b a/\Oc E6 2 b a 15 G H E/\c.pick.length=E.length/\0<=t/\zq ((af.length:Int)-t)=j/\cntM (eF p0 af c cQ cR) j t E=some bn) ⟨_,_,⟨ag,0,S,R,Jo3,(cf.stp<|T4 u e f g),cs,(by decide),(by simp),ct⟩,(KM R)⟩ ?_
 rintro j _ dr ⟨ah,t,E,rfl,k,ap,K,aB,ab,h⟩
 rcases j with _|j
 have O:=h;obtain⟨cI,h⟩:=exq O
 have I:=dcf ab
 refine Jq<|Jl3 2 R<|Js3 R U27 R R<|Jb 1 R<|Jx2 R I<|Jc1<|Jt<|Jt ?_
 cases h
 have h:=O
 refine Jb1 ?_
 cases h
 exact Jw1 _ ⟨ah,E,R,k.wk R,ap,K,R⟩<|KM R
 obtain⟨cI,h,O⟩:=BI h;unfold eF at h
 have I:=dct ab
 refine Jq<|Jl3 2 R<|Js3 R U27 R R<|Jb 1 R<|Jw2 R I<|Js<|Jp<|Jq<|Jv<|Jq<|Jq<|Js1 (J:=ah) [0,2,8,15,16] none [(0,2),(2,2),(1,0),(3,2),(4,0),(5,2),(6,2),(7,2),(8,2),(9,2),(11,2),(12,2),(14,2),(10,0),(13,0),(15,2),(16,0),(17,2),(18,2)] [] (by kernel_rfl) (by kernel_rfl) λcL m=>Je3 R U69 R Z27<|Jn 1 R ?_
 have aX:=av.stp (T7 z u e f g k m)
 refine Jg R (Jd2 I27 R R<|hvC (aX.ld 4 R R) R)<|Ob h λcS bd h=>Jf R (Jg2 ap.rdc bd U27 Z2 R R K R) ?_
 have aq:=ap.stp m
 refine Jg R (Jd2 I2 R R<|hvC (aq.rdc.gInt bd) R)<|Jn 2 R<|Ob h λbl h cm=>Jk4 [2,4,6,7,9,10,11] 83 bl ah cL 12 (Cl.refl _ _ _) ?_ ?_
 revert h
 cases c7:decide (0<=cS)
 have aG:=(T10 v n o z u e f g k m)
 refine JF λh=>Jn 2 R<|Ob h λdK be h=>Jd3 R D.rdc be U27 Z2<|Je3 R U32 R Z30<|Je3 R U30 R Z27<|Jn 1 R<|Jg R (Jd2 I2 R R<|hvC ((D.stp<|T5 e f g k m).rdc.gInt be) R)<|Jg R (Jd2 I27 R R<|hvC ((au.stp aG).ld 0 R R) R)<|Ob h λdL bf h=>Jd3 R N bf U27 Z2<|Jg R (Jd2 I2 R R<|hvC ((N.stp aG).gInt bf) R)<|Jn 2 R ?_
 cases h
 exact Jv1 _ (Cl.refl _ _ _) ⟨R,_,Jo3⟩<|KM R
 refine JT λh=>Jn 6 R<|Jf4 R<|Jf4 R<|Jn 1 R<|Jf4 R<|Jn 2 R ?_
 cases h
 exact Jv1 _ (Cl.refl _ _ _) ⟨R,_,Jo3⟩<|KM R
 rintro _ cM _ ⟨rfl,T,q⟩
 have h:=cm
 refine Jt1<|Jd ?_
 revert h
 cases c8:bl
 refine JF λh=>Jy R<|Js<|Jp<|Jf3 R<|Jq<|Jl3 2 R<|Ob h λcT bg h=>Jd3 R D.rdc bg U27 Z2<|Jc3 R I2 ((D.stp<|T6 e f g k m q).rdc.gInt bg)<|Jb 1 R<|Ob h λbo h cn=>Jt3 [2,4,6,7,9,10,11] (λd p a=>∃b ao an,p=(12,.slice ao bo.length an)::d/\Stp [] T cM b a/\Rd Rp.bool b a 0 ao an bo) ?_ ?_
 revert h
 cases c9:(cT==1)
 refine JF λh=>Jy R<|Js ?_
 cases h
 exact Jw1 _ ⟨T,bO,bM,R,Jo3,((Sl.st cU ((bY.mx bU cE R (R:17+2=19)).stp e).rdc).stp (T4 g k m q))⟩<|KM R
 refine JT λh=>Jx R<|Jg3 R ?_
 cases h
 exact Jw1 _ ⟨T,bN,bP,R,Jo3,((Sl.st cV ((bZ.mx bU cF R (R:20+2=22)).stp f).rdc).stp (T3 k m q))⟩<|KM R
 rintro _ ds ⟨aF,ao,an,rfl,Z,b1⟩
 have h:=cn
 refine Jp<|Js1 (J:=aF) [16] none [(0,2),(2,2),(4,2),(5,2),(1,0),(3,0),(6,1),(7,2),(8,1)] [] (by kernel_rfl) (by kernel_rfl) λdt M=>Je3 R U69 R Z27<|Jn 3 R ?_
 have aY:=aX.stp (T3 q Z M)
 have W:=(T12 n o z u e f g k m q Z M)
 refine Jg R (Jd2 I27 R R<|hvC (aY.ld 4 R R) R)<|Jg R (Jh4 (haC aY.cells R) I69 Z69 R)<|Ob h λdM cC h=>Jw3 R call34 (Ret.cast (by simp only[K,zy,zz])<|rZ (J:=λC=>mp [(15,2)] 0<|aF C) (p0:=(⟨c.owner,c.prio,c.next,c.prev,E⟩:l7Game)) (Jm2 ((b8.mx aD).stp W) (mp [(15,2)] 0) R R) (Jm2 ((ca.mx aD).stp W) (mp [(15,2)] 0) R R) (Jm2 ((cb.mx aD).stp W) (mp [(15,2)] 0) R R) (Jm2 ((cc.mx (ie (aT _) _) bj R (R:9+5=14)).stp W).rdc (mp [(15,2)] 0) R R) ((aq.stp<|T3 q Z M).map (mp [(15,2)] 0) R R) (Jm2 (b1.stp M) (mp [(15,2)] 0) R R) cC) ?_
 rintro _ du ⟨dg,rfl,bT,b2,a8⟩
 obtain⟨bD,al,cG⟩:=Ji bT 23 R
 refine⟨(al.cl R),?_⟩
 have aZ:=b2.mx (aT _) cG R (R:23+2=25)
 refine Ob h λdN cD h=>Jf R (Jg2 aZ.rdc cD U27 Z2 R R (K.trans a8) R)<|Ob h λbx bi h=>Jk1 (J:=bD) (E:=E6) 25 [] R R R R R R R R Z2 R R R R aZ bi λdv bF aI b3=>⟨((al.tr aI).cl R),?_⟩
 have cr:c.pick.length=bx.length:=(K.trans a8).trans (Ju2 bi).2.2.2.symm
 refine Jt1<|Jo<|Jz<|Jp<|Jg3 R<|wr2 aB ab a6 ▸ ?_
 cases h
 exact Ja2 ⟨(λC=>ren [(25,15)]<|bF C),t+1,bx,R,(Jz2 ((T7 k m q Z M al aI).wk R) [(25,15)] R),(b3.map (ren [(25,15)]) R R),cr,nxz aB,nxm ab,O⟩ R
 refine JT λh=>Jx R<|Jc1<|Jt<|Jb1<|Jp<|Jg3 R ?_
 have cv:zr .i64 (t+1)=t+1:=wr1 aB (Jn2 I) a6
 rw[cv]
 have I:=Jn2 I
 cases h
 exact Ja2 ⟨T,t+1,E,R,(T3 k m q).wk R,(aq.stp q),K,by omega,by omega,O⟩ R
 rintro _ dq ⟨aE,ad,rfl,Y,b0,cq,rfl⟩
 have h:=yI cl
 refine Jp<|Jl3 1 R<|Je3 R U69 R Z27<|Jc3 R I27 ((av.stp<|T6 z u e f g Y).ld 4 R R)<|Jf R (Jn4 [.slice aQ af.length aK,.slice G c.pick.length H] R)<|Jm4 aE 3 R Z36 R (ax.stp<|T11 i s v n o z u e f g Y) R λdw am b4=>Tv<|Jb 1 R<|Ju<|Jb2 (l:=[.cell 4 36,.tmp 5]) results17 (bv R b4 I36 Z36 R<|Jq2 R R) R ?_
 cases h
 exact⟨(λC=>ren [(8,2),(15,3)]<|aE C),aQ,aK,G,H,(by simp only[cq]),((az.stp<|T14 y x i s v n o z u e f g Y am).map (ren [(8,2),(15,3)]) R R),((D.stp<|T5 e f g Y am).map (ren [(8,2),(15,3)]) R R),((b0.stp am).map (ren [(8,2),(15,3)]) R R)⟩
 refine JT λh=>Jx R<|Jj3<|Jf R (Jn4 [.slice none 0 0,.slice none 0 0] R)<|Jm4 ai 3 R Z36 R (ax.stp i) R λdx bK b5=>Tv<|Jb 1 R<|Ju<|Jw<|Jb2 (l:=[.cell 4 36,.tmp 5]) results17 (bv R b5 I36 Z36 R<|Jq2 R R) R ?_
 cases h
 exact⟨ai,none,0,none,0,R,(az.stp<|T4 y x i bK),zC,zC⟩
theorem mN {af al ae ak ah aj ai am} {p0 : bench} {b0} (g0_1 : Rd Clause.rp J w 0 af al p0.clauses) (g0_2_0_0 : Rd Ri J w 0 ae ak p0.game.Arena.Owner) (g0_2_0_1 : Rd Rs J w 0 ah aj p0.game.Arena.Next) (g0_2_1 : Rd Ri J w 0 ai am p0.game.Prio) (gb0 : Bc J w 0 b0 58 [vi p0.sig.In, vi p0.sig.Out, .slice af p0.clauses.length al, .slice ae p0.game.Arena.Owner.length ak, .slice ah p0.game.Arena.Next.length aj, .slice ai p0.game.Prio.length am]) (gGE0 : Rd Rp.str J w 0 (some ⟨0, 0, none⟩) 2 ec) (gGT : Tb prog "internal/strconv.uint64pow10" .u64 Lib.pow10Tab J w) {r : ByteArray} (h : dr p0 = some r) : Ret prog 75 [.pointer (some ⟨b0, 0, none⟩)] w (fun v w' => ∃ (κ' : Col), v = .string r ∧ Ent J w κ' w') := by
 unfold dr at h
 refine Jp3 J func75 R ntmps75 R λhE=>Jf3 R<|Jq<|Jl3 1 R<|Jf R (bh R R)<|Je3 R U58 R Z32<|Jg4 tv R (Jh4 (haE<|gb0.lds 3 3 R) I32 Z32 R)<|Ob h λx11 hx11 h=>Jw3 R call76 (gw (J:=Mk J) (p0:=p0.game) (Jn3 g0_2_0_0) (Jn3 g0_2_0_1) (Jn3 g0_2_1) hx11) ?_
 rintro _ w1 ⟨k2,rfl,e3⟩
 obtain⟨K4,S5,m6⟩:=Ji e3 2 R
 refine Tv<|Jb 1 R ?_
 revert h
 cases ht8:(!x11)
 refine JF λh=>Jy R<|Js<|Jp<|Jl3 1 R<|Jf R (bh R R)<|Je3 R U58 R Z32<|Jg4 tv R (Jh4 (haE ((gb0.stp S5).lds 3 3 R)) I32 Z32 R)<|Ob h λx17 hx17 h=>Jw3 R call115 (rm (J:=Mk K4) (p0:=p0.game) (Jn3<|g0_2_0_0.stp S5) (Jn3<|g0_2_0_1.stp S5) (Jn3<|g0_2_1.stp S5) hx17) ?_
 rintro _ w14 ⟨k15,ay,ar,ax,au,rfl,e16,f17,f18⟩
 obtain⟨K19,S20,m21⟩:=Ji e16 4 R
 refine Tv<|?_
 have f23:=f17.mx (aT _) m21 R (R:4+2=6)
 have f24:=f18.mx (aT _) m21 R (R:4+3=7)
 refine Jy3 K19 8 R X36 R λb3 w25 K26 S27 f28=>Tv<|Jm4 K26 8 R Z36 R f28 R λw29 S30 f31=>Tv<|Jd<|Jj3<|Jc4 K26 Ep.str 9 R Y38 cG R λaq ap w32 K33 S34 f35=>Tv<|Jb 1 R<|Jq<|Jj3<|Je3 R U36 R Z27 ?_
 have f36:=f31.stp S34
 refine Jc3 R I27 (f36.ld 0 R R)<|Js3 R U27 R R<|Jb 1 R<|Ob h λq2 hq39 hK38=>?_
 clear h
 refine Jt3 [0] (λE L w'=>∃κ',∃s3:(List ByteArray),∃ad ac,L=(4,.slice ad s3.length ac)::E/\Stp [9] K33 w32 κ' w'/\Oc Ep.str 9 κ' w' 9 ad ac s3/\q2=zw s3) ?_ ?_
 refine Jv<|Ju3 [0,3,20,21] (λk E L w'=>∃κ' v22,∃s1:(List ByteArray),∃ab aa,L=(4,.slice ab s1.length aa)::(22,vi v22)::E/\Stp [9] K33 w32 κ' w'/\Oc Ep.str 9 κ' w' 9 ab aa s1/\0<=v22/\zq ((x17.Won.length:Int)-v22)=k/\cntM (cL x17) k v22 s1=some q2) ⟨_,_,⟨K33,0,(([]:List ByteArray):(List ByteArray)),aq,ap,R,Jo3,f35,(by decide),(by simp),hq39⟩,(KM R)⟩ ?_
 rintro k _ w44 ⟨K45,v22,s1,ab,aa,rfl,S46,f47,hj37,hJ37,h⟩
 rcases k with _|k
 have hk48:=h;obtain⟨o37,h⟩:=exq hk48
 have hc37:=dcf hJ37
 refine Jf3 R<|Jq<|Jx2 R hc37<|Jc1<|Jt<|Jt ?_
 cases h
 have h:=hk48
 refine Jb1 ?_
 cases h
 exact Jw1 _ ⟨K45,s1,ab,aa,R,S46.wk R,f47,R⟩<|KM R
 obtain⟨o37,h,hk48⟩:=BI h;unfold cL at h
 have hc37:=dct hJ37
 have S001:=(T6 S5 S20 S27 S30 S34 S46)
 have S002:=(T4 S27 S30 S34 S46)
 refine Jf3 R<|Jq<|Jw2 R hc37<|Js<|Jp<|Jq<|Jv<|Jl3 1 R<|Ob h λx25 hx25 h=>Jd3 R f23.rdc hx25 U27 Z2<|Jc3 R I2 ((f23.stp S002).rdc.gInt hx25)<|Jb 2 R<|Js1 (J:=K45) [0,7,8] none [(0,2),(1,2),(2,2),(5,2),(7,2),(3,0),(4,2),(6,0),(8,2),(9,0),(10,1),(11,2),(12,1),(13,1),(14,2)] [] (by kernel_rfl) (by kernel_rfl) λw51 S50=>Jn 2 R<|Ob h λx29 hx29 h=>Jf R (ug hx29 R runUnderlying131 Z9 R R R)<|Je3 R U36 R Z27<|Jn 1 R<|Jg R (Jd2 I9 R R<|hvC ((gGE0.stp<|S001.tr S50).gStr hx29) R)<|Ob h λx31 hx31 h=>Jf R (cc R R R hx31)<|Jg R (Jd2 I27 R R<|hvC ((f36.stp<|S46.tr S50).ld 1 R R) R)<|Ob h λx35 hx35 h=>Jd3 R f24.rdc hx35 U27 Z2<|Jg R (Jd2 I2 R R<|hvC ((f24.stp<|S002.tr S50).rdc.gInt hx35) R)<|Ob h λx37 hx37 h=>Jw3 R call125 (oe (J:=Mk K45) ((gGT.stp<|S001.tr S50).map (mp [] 0) R R) hx37) ?_
 rintro _ w56 ⟨k57,rfl,e58⟩
 obtain⟨K59,S60,m61⟩:=Ji e58 10 R
 refine⟨(S60.cl R),Ob h λx38 hx38 h=>Jf R (cc R R R hx38)<|Jb4 K59 Ep.str 12 [] (parts:=[(0,.tmp 38)]) (cells:=[.string x38]) (xs:=([x38]:List ByteArray)) R Y38 cG R (Jj4 R) λaw av w63 K64 S65 f66=>⟨((S60.tr S65).cl R),Ob h λx40 hx40 h=>Jd4 K64 Ep.str 9 [] R Y38 cG R (f47.stp<|T3 S50 S60 S65) (Sl.srcP sL f66.rdc) aV hx40 R λan ao w68 K69 S70 f71=>⟨((T3 S60 S65 S70).cl R),Jn 1 R<|Jt1<|Jo<|Jz<|Jp<|Jg3 R<|wr2 hj37 hJ37 f23.len_le ▸ ?_⟩⟩⟩
 cases h
 exact Ja2 ⟨K69,v22+1,x40,an,ao,R,(T5 S46 S50 S60 S65 S70).wk R,f71,nxz hj37,nxm hJ37,hk48⟩ R
 rintro _ w40 ⟨K41,s3,ad,ac,rfl,S42,f43,rfl⟩
 have h:=yI hK38
 refine Jp<|Jl3 1 R<|Ob h λx43 hx43 h=>Jw3 R call120 (nF (J:=Mk K41) (Jn3 f43.rdc) hx43) ?_
 rintro _ w72 ⟨k73,rfl,e74⟩
 obtain⟨K75,S76,m77⟩:=Ji e74 10 R
 refine Tv<|Jb 1 R<|Ju<|Jb2 (l:=[.tmp 2]) results75 (Jq2 R R) R ?_
 cases h
 exact⟨K75,R,(hE.stp<|T7 S5 S20 S27 S30 S34 S42 S76)⟩
 refine JT λh=>Jx R<|Jf3 R<|Ju<|Jw<|Jb2 (l:=[.tmp 2]) results75 (Jq2 R R) R ?_
 cases h
 exact⟨K4,R,(hE.stp S5)⟩
theorem lz {C x z B y A}{p0:Parity}{v K}{p1:VV}(X:Rd Ri J w 0 C x p0.Arena.Owner) (Y:Rd Rs J w 0 z B p0.Arena.Next) (Z:Rd Ri J w 0 y A p0.Prio) (p:Rd Rs J w 0 v K p1){r:Int}(h:cA p0 p1=some r):Ret prog 250 [.agg #[.slice C p0.Arena.Owner.length x,.slice z p0.Arena.Next.length B,.slice y p0.Prio.length A],.slice v p1.length K] w (Pvi J w r):=by
 unfold cA at h
 refine Jp3 J func250 R ntmps250 R λE=>Jj3<|Jx3 J 2 R λak L k g W=>Tv<|Jb 1 R<|Jq<|Jl3 1 R<|Js3 R U28 R R<|Jb 1 R<|Ob h λI ab F=>?_
 clear h
 refine Jx1 (λm s=>∃t,m=[]/\Stp [] k L t s/\I=zw ()) ?_ ?_
 refine Jv<|Ju3 [1,2,7] (λf M m s=>∃t b,m=(8,vi b)::M/\Stp [] k L t s/\0<=b/\zq ((p1.length:Int)-b)=f/\cntM (cq p0 p1) f b ()=some I) ⟨_,_,⟨k,0,R,Jo3,(by decide),(by simp),ab⟩,(KM R)⟩ ?_
 rintro f _ ar ⟨j,b,rfl,a,G,i,h⟩
 rcases f with _|f
 have e:=h;obtain⟨ae,h⟩:=exq e
 have q:=dcf i
 refine Jf3 R<|Jq<|Jx2 R q<|Jc1<|Jt<|Jt ?_
 cases h
 have h:=e
 refine Jb1 ?_
 cases h
 exact Jw1 _ ⟨j,R,a.wk R,R⟩ KN
 obtain⟨ae,h,e⟩:=BI h;unfold cq at h
 have q:=dct i
 refine Jf3 R<|Jq<|Jw2 R q<|Js<|Jp<|Jq<|Jv<|Jf3 R<|Jq<|Js1 (J:=j) [0,2] none [(1,2),(2,2),(4,2),(5,2),(6,2),(0,0),(7,0),(3,1),(8,1),(9,2)] [] (by kernel_rfl) (by kernel_rfl) λau c=>Jn 4 R<|Ob h λaz H h=>Jd3 R p H U28 Z27<|Jg R (Jh4 (haC (W.stp<|a.tr c).cells R) I32 Z32 R) ?_
 have D:=p.stp (T3 g a c)
 obtain⟨aj,aq,U,aa⟩:=D.gSl H
 have n:=(T3 g a c)
 refine Jg R (Jd2 I27 R R<|hvC aa R)<|Ob h λay ac h=>Jw3 R call251 (pd (J:=λQ=>mp [] 1<|j Q) (p0:=p0) (Jm2 (X.stp n) (mp [] 1) R R) (Jm2 (Y.stp n) (mp [] 1) R R) (Jm2 (Z.stp n) (mp [] 1) R R) (Jm2 D (mp [] 1) R R) ac) ?_
 rintro _ av ⟨am,ah,ai,rfl,S,V⟩
 obtain⟨N,d,ao,ag⟩:=Jj S 3 R
 refine⟨(d.cl R),Ob h λaf ad h=>Jw3 R call248 (cx (J:=Mk N) (Jn3<|V.mx ag) (Jn3<|U.stp d) ad) ?_⟩
 rintro _ aw ⟨an,rfl,T⟩
 obtain⟨u,o,ap⟩:=Ji T 6 R
 refine⟨((d.tr o).cl R),Jn 1 R<|Jt1<|Jd ?_⟩
 revert h
 cases al:decide (0<af)
 refine JF λh=>Jy R<|Js<|Jz<|Jp<|Jg3 R<|wr2 G i p.len_le ▸ ?_
 cases h
 exact Ja2 ⟨u,b+1,R,(T4 a c d o).wk R,nxz G,nxm i,e⟩ R
 refine JT λh=>Jx R<|Jf3 R<|Ju<|Ja1<|Jw<|Jw ?_
 cases h
 obtain rfl:=zt e
 have h:=yL F
 refine Ja1<|Jr2<|Jw<|Jb2 (l:=[.tmp 4]) results250 (Jq2 R R) R ?_
 cases h
 exact⟨u,R,(E.stp<|T5 g a c d o)⟩
 rintro _ ax ⟨O,rfl,P,rfl⟩
 have h:=yI F
 refine Jp<|Jf3 R<|Ju<|Jb2 (l:=[.tmp 4]) results250 (Jq2 R R) R ?_
 cases h
 exact⟨O,R,(E.stp<|g.tr P)⟩
theorem nA {X S U W T V}{p0:Parity}(ad:Rd Ri J w 0 X S p0.Arena.Owner) (ae:Rd Rs J w 0 U W p0.Arena.Next) (af:Rd Ri J w 0 T V p0.Prio){r:VV}(h:fx p0=some r):Ret prog 212 [.agg #[.slice X p0.Arena.Owner.length S,.slice U p0.Arena.Next.length W,.slice T p0.Prio.length V]] w (λa2 a=>∃(b:Col) (al:Option Addr) (am:Nat),a2= .slice al r.length am/\Ent J w b a/\Oc (Ep.fz Rs) 27 b a 2 al am r):=by
 unfold fx at h
 refine Jp3 J func212 R ntmps212 R λaK=>Jj3<|Jx3 J 2 R λbe bp aq n E=>Tv<|Jb 1 R<|Jj3<|Je3 R U32 R Z27<|Jc3 R I27 (E.ld 2 R R)<|Js3 R U27 R R<|Ob h λg aZ h=>Jl1 (J:=aq) (E:=(Ep.fz<|Rs)) (z:=([]:VI)) 3 R R R R R R R Y28 br R R R R R (λ_ _ _=>⟨none,0,R,Sl.nil⟩) (Jv2 aZ) λt y an A f ac=>Tv<|Jb 1 R<|Jq<|Jl3 1 R<|Js3 R U28 R R<|Jb 1 R<|Ob h λak aQ aL=>?_
 clear h
 refine Jt3 [1,3] (λd k a=>∃b,∃q:VV,k=d/\Stp [3,7] A an b a/\Oc (Ep.fz<|Rs) 27 b a 3 t y q/\g.length=q.length/\ak=zw q) ?_ ?_
 refine Jv<|Ju3 [1,3,11] (λc d k a=>∃b j,∃p:VV,k=(12,vi j)::d/\Stp [3,7] A an b a/\Oc (Ep.fz<|Rs) 27 b a 3 t y p/\g.length=p.length/\0<=j/\zq ((g.length:Int)-j)=c/\cntM (cB p0) c j p=some ak) ⟨_,_,⟨A,0,g,R,Jo3,ac,R,(by decide),(by simp),aQ⟩,(KM R)⟩ ?_
 rintro c _ bq ⟨L,j,p,rfl,s,D,I,ag,u,h⟩
 rcases c with _|c
 have v:=h;obtain⟨a0,h⟩:=exq v
 have H:=dcf u
 refine Jf3 R<|Jq<|Jx2 R H<|Jc1<|Jt<|Jt ?_
 cases h
 have h:=v
 refine Jb1 ?_
 cases h
 exact Jw1 _ ⟨L,p,R,s.wk R,D,I,R⟩<|KM R
 obtain⟨a0,h,v⟩:=BI h;unfold cB at h
 have H:=dct u
 have B:=(T3 n f s)
 refine Jf3 R<|Jq<|Jw2 R H<|Js<|Jp<|Jq<|Jv<|Jf3 R<|Jm3 2 R<|Jg4 tv R (Jh4 (haE (E.stp<|f.tr s).cells) I32 Z32 R)<|Ob h λbz aT h=>Jw3 R call249 (kl (J:=Mk L) (p0:=p0) (Jn3<|ad.stp B) (Jn3<|ae.stp B) (Jn3<|af.stp B) aT) ?_
 rintro _ bs ⟨bh,bb,a8,rfl,aC,bf⟩
 obtain⟨ar,N,bk⟩:=Ji aC 4 R
 refine Tv<|Js3 R U27 R R<|Jn 1 R<|Ob h λbA aU h=>Jl1 (J:=ar) (E:=E6) (z:=(0:Int)) 7 R R R R R R R Y27 aR R R R R R (λ_ _ _=>R) (Jv2 aU) λa9 bd a4 au O aG=>Tv<|Ob h λbB aV h=>Jf R (Jg2 D.rdc aV U28 Z27 R R I R) ?_
 obtain⟨av,P,a6⟩:=b9 au a4 7
 refine Ob h λao ai h=>Jk1 (J:=av) (E:=(Ep.fz<|Rs)) 3 [] R R R R R R R R Z27 R ⟨_,_,R,(Sl.z1<|Sl.st a6 aG.rdc)⟩ R R (D.stp<|T3 N O P) ai λbt aw aA aH=>Tv<|?_
 have aO:g.length=ao.length:=I.trans (Ju2 ai).2.2.2.symm
 refine Jo<|Jz<|Jp<|Jg3 R<|wr2 ag u ac.len_le ▸ ?_
 cases h
 exact Ja2 ⟨aw,j+1,ao,R,(T5 s N O P aA).wk R,aH,aO,nxz ag,nxm u,v⟩ R
 rintro _ a3 ⟨K,q,rfl,m,aF,aN,rfl⟩
 have h:=yI aL
 refine Jp<|Ob h λa1 aS aM=>?_
 clear h
 refine Jv<|Ju3 [1,3] (λc d k a=>∃b,∃x:VV,k=d/\Stp [3] K a3 b a/\Oc (Ep.fz<|Rs) 27 b a 3 t y x/\g.length=x.length/\bn (df p0) c x=some a1) ⟨_,_,⟨K,q,R,Jo3,aF,aN,aS⟩,(KM R)⟩ ?_
 rintro c _ bu ⟨ax,x,rfl,i,F,o,h⟩
 rcases c with _|c
 cases h
 obtain⟨bo,h,ah⟩:=BI h;unfold df at h
 refine Jv<|Jj3 ?_
 have Y:=E.stp (T3 f m i)
 refine Jg4 tv R (Jh4 (haE Y.cells) I32 Z32 R)<|Jn 1 R<|Ob h λa5 aW h=>?_
 have Z:=ad.stp (T4 n f m i)
 have aa:=ae.stp (T4 n f m i)
 have ab:=af.stp (T4 n f m i)
 refine Jw3 R call250 (Ret.cast (by simp only[o,zy,zz])<|lz (J:=Mk ax) (p0:=p0) (Jn3 Z) (Jn3 aa) (Jn3 ab) (Jn3 F.rdc) aW) ?_
 rintro _ bv ⟨bi,rfl,aD⟩
 obtain⟨M,e,bl⟩:=Ji aD 4 R
 refine Tv<|Jb 1 R<|Jq<|Jf3 R ?_
 revert h
 cases bg:decide (a5<0)
 refine JF λh=>Jy R<|Js<|Jp<|Jm3 2 R<|Jg4 tv R (Jh4 (haE (Y.stp e).cells) I32 Z32 R)<|Jn 2 R<|Ob h λbC aX h=>?_
 have G:=F.stp e
 refine Jw3 R call251 (Ret.cast (by simp only[o,zy,zz])<|lc (J:=λC=>mp [] 1<|M C) (p0:=p0) (Jm2 (Z.stp e) (mp [] 1) R R) (Jm2 (aa.stp e) (mp [] 1) R R) (Jm2 (ab.stp e) (mp [] 1) R R) (Jm2 G.rdc (mp [] 1) R R) aX) ?_
 rintro _ bw ⟨bj,bc,ba,rfl,aE,aI⟩
 obtain⟨ay,Q,bm,a7⟩:=Jj aE 6 R
 refine Tv<|Ob h λbD aY h=>Jf R (Jg2 G.rdc aY U28 Z27 R R o R)<|Ob h λap aj h=>Jk1 (J:=ay) (E:=(Ep.fz<|Rs)) 3 [] R R R R R R R R Z27 R ⟨_,_,R,(Sl.z1<|aI.mx a7)⟩ R R (G.stp Q) aj λbx az aB aJ=>Tv<|?_
 have aP:g.length=ap.length:=o.trans (Ju2 aj).2.2.2.symm
 refine Jo<|Jz ?_
 cases h
 exact Ja2 ⟨az,ap,R,(T4 i e Q aB).wk R,aJ,aP,ah⟩ R
 refine JT λh=>Jx R<|Jf3 R<|Ju<|Jw<|Ja1<|Jw ?_
 cases h
 obtain rfl:=zt ah
 have h:=yL aM
 refine Ja1<|Jb2 (l:=[.tmp 2]) results212 (Jq2 R R) R ?_
 cases h
 exact⟨(λC=>ren [(3,2)]<|M C),t,y,(by simp only[o]),((aK.stp<|T5 n f m i e).map (ren [(3,2)]) R R),((F.stp e).map (ren [(3,2)]) R R)⟩
theorem l9 (n:Nat):∀{w:World}{J:Col}{K P N O L M t}{p0:asker}{I W}{p1:VI}{p2:Int}{i:Int}{j:Int}{k:Int}{Q}(ag:Rd Ri J w 0 K P p0.game.Arena.Owner) (ah:Rd Rs J w 0 N O p0.game.Arena.Next) (ai:Rd Ri J w 0 L M p0.game.Prio) (S:Mz kwquery kvquery J w 2 t p0.known) (s:Rd Ri J w 0 I W p1) (aj:Bc J w 0 Q 292 [.slice K p0.game.Arena.Owner.length P,.slice N p0.game.Arena.Next.length O,.slice L p0.game.Prio.length M,.map (some t)]){r:VI×(List (query×VI))}(h:cI n p0 p1 p2 i j k=some r),Ret prog 216 [.pointer (some ⟨Q,0,none⟩),.slice I p1.length W,vi p2,vi i,vi j,vi k] w (λaR a=>∃(b:Col) (aP:Option Addr) (aQ:Nat),aR= .slice aP r.1.length aQ/\Ent J w b a/\Rd Ri b a 0 aP aQ r.1/\Mz kwquery kvquery b a 2 t r.2):=by
 induction n with
 |zero=>
  intro w J K P N O L M t p0 I W p1 p2 i j k Q ag ah ai S s aj r h
  cases h
 |succ n am=>
  intro w J K P N O L M t p0 I W p1 p2 i j k Q ag ah ai S s aj r h
  have h:cJ (cI n) p0 p1 p2 i j k=some r:=h
  unfold cJ at h
  refine Jp3 J func216 R ntmps216 R λak=>Jf3 R<|Jq<|Jl3 1 R<|Js3 R U27 R R<|Jn 2 R<|Ob h λaN h br=>Jk4 [0,1,2,3,4,5] 26 aN J w 3 tv ?_ ?_
  revert h
  cases bV:((p1.length:Int)==0)
  refine JF λh=>Jn 3 R ?_
  cases h
  exact Jl4 tv R
  refine JT λh=>Jn 3 R ?_
  cases h
  exact Jl4 tv R
  rintro _ b5 _ ⟨rfl,aq,c⟩
  have h:=br
  refine Jd ?_
  revert h
  cases bX:aN
  refine JF λh=>Jy R<|Js<|Jp<|Jl3 4 R<|Jf R (Jn4 [vi 0,vi p2,vi i,vi j,vi k] R)<|Jy3 aq 3 R zeroValue294 R λav cc D d be=>Tv<|Jm4 D 3 R sizeOf294 R be R λaS e bg=>Tv<|Jd<|Jq<|Jl3 1 R<|Js3 R U27 R R<|Jb 1 R<|Ob h λaO bA bs=>?_
  clear h
  refine Jt3 [0,1,2,3,4,5,13] (λv x a=>∃b an,x=v/\Stp [3] D aS b a/\Bc b a 3 av 294 [vi an,vi p2,vi i,vi j,vi k]/\aO=zw an) ?_ ?_
  refine Jv<|Ju3 [0,1,2,3,4,5,13,32,33] (λC v x a=>∃b u p,x=(34,vi u)::v/\Stp [3] D aS b a/\Bc b a 3 av 294 [vi p,vi p2,vi i,vi j,vi k]/\0<=u/\zq ((p1.length:Int)-u)=C/\cntM (ca p1) C u p=some aO) ⟨_,_,⟨D,0,(0:Int),R,Jo3,bg,(by decide),(by simp),bA⟩,(KM R)⟩ ?_
  rintro C _ b4 ⟨E,u,p,rfl,aa,ax,aI,T,h⟩
  rcases C with _|C
  have U:=h;obtain⟨bH,h⟩:=exq U
  have al:=dcf T
  refine Jf3 R<|Jq<|Jx2 R al<|Jc1<|Jt<|Jt ?_
  cases h
  have h:=U
  refine Jb1 ?_
  cases h
  exact Jw1 _ ⟨E,p,R,aa.wk R,ax,R⟩<|KM R
  obtain⟨bH,h,U⟩:=BI h;unfold ca at h
  have al:=dct T
  refine Jf3 R<|Jq<|Jw2 R al<|Js<|Jp<|Jq<|Jv<|Jj3<|Ob h λao aJ h=>Jd3 R s aJ U27 Z2<|Jc3 R I2 ((s.stp<|T4 c d e aa).gInt aJ)<|Jb 1 R<|Js1 (J:=E) [3] (some 6) [(0,2),(2,2),(3,2),(1,0),(4,2),(5,2)] [(6,1)] (by kernel_rfl) (by kernel_rfl) λb6 au=>Je3 R runUnderlying294 R Z2<|Jn 1 R<|Ob h λ_z41 bG h=>Jf R (xO R R R<|yc bG) ?_
  have ay:=ax.stp au
  refine Jg R (Jd2 I2 R R<|hvC (ay.ld 0 R R) R)<|Jn 1 R<|Je3 R runUnderlying294 R Z2<|Jt1<|Jz3 E 3 (off:=0) (vc:=[vi<|zr .i64<|BitVec.toNat<|BitVec.ofInt (zA zB) p ||| BitVec.ofInt (zA zB) (zr .i64 (1 * 2 ^ (min (zq ao)<|zA zB)))]) (cs':=[vi (zr .i64<|BitVec.toNat<|BitVec.ofInt (zA zB) p ||| BitVec.ofInt (zA zB) (zr .i64 (1 * 2 ^ (min (zq ao)<|zA zB)))),vi p2,vi i,vi j,vi k]) R Z2 R ay R λb7 a2 bj=>Tv<|Jo<|Jz<|Jp<|Jg3 R<|wr2 aI T s.len_le ▸ ?_
  cases h
  exact Ja2 ⟨E,u+1,((zr .i64<|BitVec.toNat<|BitVec.ofInt (zA zB) p ||| BitVec.ofInt (zA zB) (zr .i64 (1 * 2 ^ (min (zq ao)<|zA zB)))):Int),R,(T3 aa au a2).wk R,bj,nxz aI,nxm T,U⟩ R
  rintro _ b3 ⟨X,an,rfl,m,bi,rfl⟩
  have h:=yI bs
  refine Jp<|Jq<|Jq<|Js1 (J:=X) [0,2,3] none [(0,2),(1,2),(2,2),(3,0),(4,0),(5,0),(6,2),(7,2),(8,2),(9,2),(10,2)] [] (by kernel_rfl) (by kernel_rfl) λb8 f=>Jn 1 R<|Jf R (bh R R)<|Je3 R U292 R sizeOf290 ?_
  have ad:=aj.stp (T5 c d e m f)
  refine Jg R (Jd2 isAgg290 R R<|hvC (ad.ld 3 R R) R) ?_
  have az:=bi.stp f
  refine Jg R (Jh4 (haC az.cells R) isAgg294 sizeOf294 R) ?_
  have ae:=S.stp (T5 c d e m f)
  refine Ob h λbK bB h=>?_
  obtain⟨bU,a8,a3,bz,bw,bk⟩:=Mz.look ae bB
  refine Jg R (uh (kf:=kvquery) (vf:=vfS) (z:=(((none:Option Addr),0),([]:VI))) keyEquery runUnderlying290 zeroValue27 R R R (mvC bz R) bw)<|Jn 5 R<|Jt1<|Jd<|Jf3 R ?_
  revert h
  cases bW:bK.2
  refine JF λh=>Jy R<|Js<|Jp<|Jl3 6 R<|Jf R (oD R R R<|show ¬(2:Int)=0 by decide) (Ob h λaV bC h=>?_)
  have aA:=ag.stp (T5 c d e m f)
  have aB:=ah.stp (T5 c d e m f)
  have aC:=ai.stp (T5 c d e m f)
  refine Jw3 R call252 (i8 am (J:=λg=>mp [(2,2)] 1<|X g) (p0:=p0) (Jm2 aA (mp [(2,2)] 1) R R) (Jm2 aB (mp [(2,2)] 1) R R) (Jm2 aC (mp [(2,2)] 1) R R) (ae.map (mp [(2,2)] 1) R R) (Jm2 (s.stp<|T5 c d e m f) (mp [(2,2)] 1) R R) (ad.map (mp [(2,2)] 1) R R) bC) ?_
  rintro _ bJ ⟨bZ,bR,bS,rfl,ba,bl,bm⟩
  obtain⟨aY,q,aL,bN⟩:=Jj ba 4 R
  refine Tv<|Jb 1 R<|Jl3 6 R ?_
  obtain⟨aZ,o,bO⟩:=b9 aY bJ 7
  refine Ob h λaW bD h=>?_
  have aD:=aA.stp (q.tr o)
  have aE:=aB.stp (q.tr o)
  have aF:=aC.stp (q.tr o)
  have af:=ad.stp (q.tr o)
  refine Jw3 R call253 (jt am (J:=λg=>mp [(6,2)] 1<|aZ g) (p0:=(⟨p0.game,aV.2⟩:asker)) (Jm2 aD (mp [(6,2)] 1) R R) (Jm2 aE (mp [(6,2)] 1) R R) (Jm2 aF (mp [(6,2)] 1) R R) (((bm.mxz bN aL R (R:4+2=6)).stp o).map (mp [(6,2)] 1) R R) (Jm2 (Sl.st bO (bl.mx (aT _) aL R (R:4+3=7)).rdc) (mp [(6,2)] 1) R R) (af.map (mp [(6,2)] 1) R R) bD) ?_
  rintro _ aU ⟨b0,a5,a6,rfl,bb,bn,bo⟩
  obtain⟨Y,H,aM,bP⟩:=Jj bb 8 R
  refine Tv<|?_
  have aG:=bn.mx (aT _) aM R (R:8+3=11)
  have aH:=bo.mxz bP aM R (R:8+2=10)
  refine Jb 1 R<|Jq<|Jl3 1 R<|Js3 R U27 R R<|Jn 1 R<|Js3 R U27 R R<|Jb 1 R<|Ob h λV h bt=>Jt3 [0,13] (λv x a=>∃b A B,x=(19,.slice A V.1.length B)::v/\Stp [10,11,14,15] Y aU b a/\Oc E6 2 b a 11 A B V.1/\Mz kwquery kvquery b a 10 t V.2) ?_ ?_
  revert h
  cases bY:decide ((aW.1.length:Int)<(aV.1.length:Int))
  refine JF λh=>Jy R<|Js ?_
  cases h
  exact Jw1 _ ⟨Y,a5,a6,R,Jo3,aG,aH⟩<|KM R
  refine JT λh=>Jx R<|Jm3 6 R<|Jf R (oD R R R<|show ¬(2:Int)=0 by decide) ?_
  obtain⟨a0,ac,bQ⟩:=b9 Y aU 11
  have F:=(H.tr ac)
  refine Ob h λce bE h=>Jw3 R call252 (i8 am (J:=λg=>mp [(10,2)] 1<|a0 g) (p0:=(⟨p0.game,aW.2⟩:asker)) (Jm2 (aD.stp F) (mp [(10,2)] 1) R R) (Jm2 (aE.stp F) (mp [(10,2)] 1) R R) (Jm2 (aF.stp F) (mp [(10,2)] 1) R R) ((aH.stp ac).map (mp [(10,2)] 1) R R) (Jm2 (Sl.st bQ aG.rdc) (mp [(10,2)] 1) R R) ((af.stp F).map (mp [(10,2)] 1) R R) bE) ?_
  rintro _ cd ⟨b1,a4,a7,rfl,a9,bc,bd⟩
  obtain⟨aX,a1,aK,bL⟩:=Jj a9 12 R
  refine Tv<|Jc 1 R ?_
  cases h
  exact Jw1 _ ⟨(λg=>ren [(15,11),(14,10)]<|aX g),a4,a7,R,(Jz2 ((ac.tr a1).wk R) [(15,11),(14,10)] R),((bc.mx (aT _) aK R (R:12+3=15)).map (ren [(15,11),(14,10)]) R R),((bd.mxz bL aK R (R:12+2=14)).map (ren [(15,11),(14,10)]) R R)⟩<|KM R
  rintro _ cb ⟨ar,A,B,rfl,ab,bp,bq⟩
  have h:=bt
  refine Jp<|Jq<|Js1 (J:=ar) [0,3] none [(0,2),(1,2),(2,2),(5,2),(3,0),(4,0),(6,1)] [] (by kernel_rfl) (by kernel_rfl) λbI y=>Jn 1 R<|Jf R (bh R R)<|Je3 R U292 R sizeOf290<|Jn 1 R<|Jg R (Jd2 isAgg290 R R<|hvC ((af.stp<|T3 H ab y).ld 3 R R) R)<|Jg R (Jh4 (haC (az.stp<|T5 q o H ab y).cells R) isAgg294 sizeOf294 R) ?_
  obtain⟨ap,Z,bM⟩:=b9 ar bI 11
  have aw:=Sl.st bM (bp.stp y).rdc
  refine Ob h λcf bF h=>?_
  obtain⟨bT,cg,bx,bv,bu⟩:=Mz.put (bq.stp (y.tr Z)) aw (by exact R) bF
  refine WO.mapup (J:=ap) (kf:=kvquery) (vf:=vfS) (v:=((A,B),V.1)) 10 R R R R R R R keyEquery runUnderlying290 bx bv λb2 G bf=>⟨((Z.tr G).cl R),Jt1<|Jd<|Jf3 R<|Ju<|Jb2 (l:=[.tmp 12]) results216 (Jq2 R R) R ?_⟩
  cases h
  exact⟨(λg=>ren [(10,2)]<|ap g),A,B,R,((ak.stp<|T12 c d e m f q o H ab y Z G).map (ren [(10,2)]) R R),((aw.stp G).map (ren [(10,2)]) R R),((bu _ G bf).map (ren [(10,2)]) R R)⟩
  refine JT λh=>Jx R<|Jf3 R<|Ju<|Jw<|Jb2 (l:=[.tmp 12]) results216 (Jq2 R R) R ?_
  cases h
  exact⟨X,a8,a3,R,(ak.stp<|T5 c d e m f),bk,ae⟩
  refine JT λh=>Jx R<|Jf3 R<|Ju<|Jw<|Jb2 (l:=[.tmp 12]) results216 (Jq2 R R) R ?_
  cases h
  exact⟨aq,none,0,R,(ak.stp c),Sl.nil,(S.stp c)⟩
theorem o0 {ag ab ad af ac ae}{p0:Parity}(bh:Rd Ri J w 0 ag ab p0.Arena.Owner) (bi:Rd Rs J w 0 ad af p0.Arena.Next) (bj:Rd Ri J w 0 ac ae p0.Prio){r:VI}(h:iD p0=some r):Ret prog 179 [.agg #[.slice ag p0.Arena.Owner.length ab,.slice ad p0.Arena.Next.length af,.slice ac p0.Prio.length ae]] w (Pvs E6 2 J w r):=by
 unfold iD at h
 refine Jp3 J func179 R ntmps179 R λaw=>Jj3<|Jx3 J 2 R λbT b6 aO m ap=>Tv<|Jb 1 R<|Jq<|Jj3<|Jg4 tv R (Jh4 (haE ap.cells) I32 Z32 R)<|Ob h λbE bs h=>?_
 have ar:=bh.stp m
 have au:=bi.stp m
 have av:=bj.stp m
 refine Jw3 R call176 (fw (J:=Mk aO) (p0:=p0) (Jn3 ar) (Jn3 au) (Jn3 av) bs) ?_
 rintro _ cg ⟨b1,rfl,a1⟩
 obtain⟨W,g,b3⟩:=Ji a1 3 R
 refine Tv<|Jb 1 R ?_
 revert h
 cases bW:(!bE)
 refine JF λh=>Jy R<|Js<|Jp<|Jj3<|Je3 R U32 R Z30 ?_
 have ah:=ap.stp g
 refine Jg4 tv R (Jh4 (haE<|ah.lds 0 2 R) I30 Z30 R)<|Ob h λch bt h=>?_
 have ai:=ar.stp g
 have aj:=au.stp g
 refine Jw3 R call143 (gg (J:=Mk W) (p0:=p0.Arena) (Jn3 ai) (Jn3 aj) bt) ?_
 rintro _ cb ⟨bY,bL,bP,rfl,a3,a9⟩
 obtain⟨aP,k,bB⟩:=Ji a3 5 R
 refine Tv<|?_
 have ak:=a9.mx (aT _) bB R (R:5+2=7)
 refine Jb 1 R<|Jj3 ?_
 have al:=ah.stp k
 refine Jg4 tv R (Jh4 (haE al.cells) I32 Z32 R)<|Jn 1 R<|Ob h λaI bu h=>?_
 have am:=ai.stp k
 have an:=aj.stp k
 have ao:=av.stp (g.tr k)
 refine Jw3 R call214 (jT (J:=Mk aP) (p0:=p0) (Jn3 am) (Jn3 an) (Jn3 ao) (Jn3 ak.rdc) bu) ?_
 rintro _ cc ⟨bZ,rfl,a4⟩
 obtain⟨aQ,K,b4⟩:=Ji a4 8 R
 refine Tv<|Jb 1 R<|Jl3 1 R<|Jf R (c7 R R R<|show ¬(2:Int)=0 by decide) (Jb 1 R<|Jl3 1 R<|Js3 R U27 R R<|Ob h λe bv h=>Jl1 (J:=aQ) (E:=E6) (z:=(0:Int)) 10 R R R R R R R Y27 aR R R R R R (λ_ _ _=>R) (Jv2 bv) λn o aF H L aq=>Tv<|Jb 1 R<|Jq<|Jl3 1 R<|Js3 R U27 R R<|Jb 1 R<|Ob h λaD br bl=>?_)
 clear h
 refine Jt3 [1,3,4,5,6] (λd f b=>∃c,∃s:VI,f=d/\Stp [10] H aF c b/\Oc E6 2 c b 10 n o s/\e.length=s.length/\aD=zw s) ?_ ?_
 refine Jv<|Ju3 [1,3,4,5,6,25] (λa d f b=>∃c i,∃q:VI,f=(26,vi i)::d/\Stp [10] H aF c b/\Oc E6 2 c b 10 n o q/\e.length=q.length/\0<=i/\zq ((e.length:Int)-i)=a/\cntM (gx aI) a i q=some aD) ⟨_,_,⟨H,0,e,R,Jo3,aq,R,(by decide),(by simp),br⟩,(KM R)⟩ ?_
 rintro a _ ce ⟨Y,i,q,rfl,aa,Q,V,ay,B,h⟩
 rcases a with _|a
 have D:=h;obtain⟨bD,h⟩:=exq D
 have T:=dcf B
 refine Jf3 R<|Jq<|Jx2 R T<|Jc1<|Jt<|Jt ?_
 cases h
 have h:=D
 refine Jb1 ?_
 cases h
 exact Jw1 _ ⟨Y,q,R,aa.wk R,Q,V,R⟩<|KM R
 obtain⟨bD,h,D⟩:=BI h;unfold gx at h
 have T:=dct B
 refine Jf3 R<|Jq<|Jw2 R T<|Js<|Jp<|Jq<|Jv<|Jf3 R<|Jm3 4 R<|Ob h λci bw h=>Jf R (Jg2 Q.rdc bw U27 Z2 R R V R)<|Ob h λaK aA h=>Jk1 (J:=Y) (E:=E6) 10 [] R R R R R R R R Z2 R R R R Q aA λcf aU a0 bb=>Tv<|?_
 have bp:e.length=aK.length:=V.trans (Ju2 aA).2.2.2.symm
 refine Jo<|Jz<|Jp<|Jg3 R<|wr2 ay B aq.len_le ▸ ?_
 cases h
 exact Ja2 ⟨aU,i+1,aK,R,(aa.tr a0).wk R,bb,bp,nxz ay,nxm B,D⟩ R
 rintro _ cd ⟨aS,s,rfl,M,ba,bo,rfl⟩
 have h:=yI bl
 have u:=(T3 K L M)
 refine Jp<|Jq<|Jj3<|Jg4 tv R (Jh4 (haE (al.stp u).cells) I32 Z32 R)<|Ob h λbF bx h=>Jw3 R call215 (ph (J:=λp=>mp [] 1<|aS p) (p0:=p0) (Jm2 (am.stp u) (mp [] 1) R R) (Jm2 (an.stp u) (mp [] 1) R R) (Jm2 (ao.stp u) (mp [] 1) R R) bx) ?_
 rintro _ aG ⟨b0,bQ,bR,bJ,bS,bM,bO,b5,bU,rfl,a5,bc,bd,be,bf,bg⟩
 obtain⟨aV,N,aC,F⟩:=Jj a5 11 R
 refine Tv<|Jn 4 R<|Js3 R U27 R R<|Jn 1 R<|Js3 R U27 R R ?_
 obtain⟨aW,x,bH⟩:=b9 aV aG 7
 obtain⟨aX,y,bI⟩:=b9 aW aG 17
 have v:=(x.tr y)
 refine Ob h λaJ bz h=>Jw3 R call216 (l9 _ (J:=λp=>mp [(16,2)] 1<|aX p) (p0:=bF) (Jm2 ((bc.mx F).stp v) (mp [(16,2)] 1) R R) (Jm2 ((bd.mx F).stp v) (mp [(16,2)] 1) R R) (Jm2 ((be.mx F).stp v) (mp [(16,2)] 1) R R) (((bf.mxz F aC R (R:11+5=16)).stp v).map (mp [(16,2)] 1) R R) (Jm2 ((Sl.st bH (ak.stp<|T4 K L M N).rdc).stp y) (mp [(16,2)] 1) R R) ((Bc.fzz bI ((bg.mx aC R (R:11+6=17)).stp x)).map (mp [(16,2)] 1) R R) bz) ?_
 rintro _ aH ⟨bX,bK,bN,rfl,a2,a6,bV⟩
 obtain⟨G,Z,b2,bG⟩:=Jj a2 18 R
 refine Tv<|?_
 have O:=a6.mx bG
 refine Js3 R U27 R R<|Jb 1 R<|Ob h λaE bq bk=>?_
 clear h
 refine Jt3 [6] (λd f b=>∃c,∃E:VI,f=d/\Stp [10] G aH c b/\Oc E6 2 c b 10 n o E/\e.length=E.length/\aE=zw E) ?_ ?_
 refine Jv<|Ju3 [5,6,44,45] (λa d f b=>∃c j,∃t:VI,f=(46,vi j)::d/\Stp [10] G aH c b/\Oc E6 2 c b 10 n o t/\e.length=t.length/\0<=j/\zq ((aJ.1.length:Int)-j)=a/\cntM (eh aI aJ) a j t=some aE) ⟨_,_,⟨G,0,s,R,Jo3,(ba.stp<|T4 N x y Z),bo,(by decide),(by simp),bq⟩,(KM R)⟩ ?_
 rintro a _ b8 ⟨X,j,t,rfl,I,P,U,ax,A,h⟩
 rcases a with _|a
 have C:=h;obtain⟨bC,h⟩:=exq C
 have S:=dcf A
 refine Jf3 R<|Jq<|Jx2 R S<|Jc1<|Jt<|Jt ?_
 cases h
 have h:=C
 refine Jb1 ?_
 cases h
 exact Jw1 _ ⟨X,t,R,I.wk R,P,U,R⟩<|KM R
 obtain⟨bC,h,C⟩:=BI h;unfold eh at h
 have S:=dct A
 refine Jf3 R<|Jq<|Jw2 R S<|Js<|Jp<|Jq<|Jv<|Jj3<|Ob h λcj az h=>Jd3 R O az U27 Z2<|Jc3 R I2 ((O.stp I).gInt az)<|Jb 1 R<|Jm3 3 R<|Ob h λck bA h=>Jf R (Jg2 P.rdc bA U27 Z2 R R U R)<|Ob h λaL aB h=>Jk1 (J:=X) (E:=E6) 10 [] R R R R R R R R Z2 R R R R P aB λca aN aZ a8=>Tv<|?_
 have bn:e.length=aL.length:=U.trans (Ju2 aB).2.2.2.symm
 refine Jo<|Jz<|Jp<|Jg3 R<|wr2 ax A O.len_le ▸ ?_
 cases h
 exact Ja2 ⟨aN,j+1,aL,R,(I.tr aZ).wk R,a8,bn,nxz ax,nxm A,C⟩ R
 rintro _ b7 ⟨aM,E,rfl,aY,a7,bm,rfl⟩
 have h:=yI bk
 refine Jp<|Jf3 R<|Ju<|Jb2 (l:=[.tmp 2]) results179 (Jq2 R R) R ?_
 cases h
 exact⟨(λp=>ren [(10,2)]<|aM p),n,o,(by simp only[bm]),((aw.stp<|T11 m g k K L M N x y Z aY).map (ren [(10,2)]) R R),(a7.map (ren [(10,2)]) R R)⟩
 refine JT λh=>Jx R<|Jf3 R<|Ju<|Jw<|Jb2 (l:=[.tmp 2]) results179 (Jq2 R R) R ?_
 cases h
 exact⟨W,none,0,R,(aw.stp<|m.tr g),zC⟩
theorem nm {T S V X U W}{p0:Parity}(aM:Rd Ri J w 0 T S p0.Arena.Owner) (aN:Rd Rs J w 0 V X p0.Arena.Next) (aO:Rd Ri J w 0 U W p0.Prio){r:VI}(h:fg p0=some r):Ret prog 180 [.agg #[.slice T p0.Arena.Owner.length S,.slice V p0.Arena.Next.length X,.slice U p0.Prio.length W]] w (Pvs E6 2 J w r):=by
 unfold fg at h
 refine Jp3 J func180 R ntmps180 R λac=>Jj3<|Jx3 J 2 R λbh bv al f D=>Tv<|Jb 1 R<|Jq<|Jj3<|Jg4 tv R (Jh4 (haE D.cells) I32 Z32 R)<|Ob h λa8 a1 h=>?_
 have E:=aM.stp f
 have G:=aN.stp f
 have I:=aO.stp f
 refine Jw3 R call176 (fw (J:=Mk al) (p0:=p0) (Jn3 E) (Jn3 G) (Jn3 I) a1) ?_
 rintro _ a5 ⟨br,rfl,aA⟩
 obtain⟨L,a,bs⟩:=Ji aA 3 R
 refine Tv<|Jn 2 R<|Ob h λag h aP=>Jk4 [1] 13 ag L a5 4 tv ?_ ?_
 revert h
 cases bl:(!a8)
 refine JF λh=>Jg4 tv R (Jh4 (haE (D.stp a).cells) I32 Z32 R)<|Ob h λbI aX h=>Jw3 R call177 (iJ (J:=Mk L) (p0:=p0) (Jn3<|E.stp a) (Jn3<|G.stp a) (Jn3<|I.stp a) aX) ?_
 rintro _ bw ⟨bn,rfl,aB⟩
 obtain⟨a9,aq,bt⟩:=Ji aB 5 R
 refine Tv<|Jn 2 R ?_
 cases h
 exact Jv1 _ tv ⟨R,_,aq.wk R⟩<|KM R
 refine JT λh=>Je4 R<|Je4 R<|Jn 2 R ?_
 cases h
 exact Jl4 tv R
 rintro _ bx _ ⟨rfl,M,c⟩
 have h:=aP
 refine Jd ?_
 revert h
 cases bm:ag
 refine JF λh=>Jy R<|Js<|Jp<|Jj3<|Jc4 M E6 5 R Y27 aR R λaw ay bz N g aE=>Tv<|Jb 1 R<|Jq<|Jq<|Js1 (J:=N) [2] none [(5,2),(0,0),(1,0),(2,1),(3,1),(4,2)] [] (by kernel_rfl) (by kernel_rfl) λbA d=>Jn 1 R ?_
 have C:=D.stp (T4 a c g d)
 refine Jg R (Jh4 (haC C.cells R) I32 Z32 R)<|Jg R (Jh4 (haC C.cells R) I32 Z32 R)<|Ob h λbJ aY h=>?_
 have Y:=E.stp (T4 a c g d)
 have Z:=G.stp (T4 a c g d)
 have aa:=I.stp (T4 a c g d)
 refine Jw3 R call218 (pc (J:=Mk N) (p0:=p0) (Jn3 Y) (Jn3 Z) (Jn3 aa) aY) ?_
 rintro _ bB ⟨bp,bf,bb,rfl,aC,aF⟩
 obtain⟨am,b,a2⟩:=Ji aC 6 R
 refine⟨(b.cl R),Ob h λaj aZ h=>?_⟩
 have F:=aa.stp b
 refine Jw3 R call217 (lj (J:=Mk am) (p0:=p0) (Jn3<|Y.stp b) (Jn3<|Z.stp b) (Jn3 F) (Jn3 (aF.mx (aT _) a2 R (R:6+2=8)).rdc) aZ) ?_
 rintro _ ai ⟨bq,be,bc,rfl,aD,aG⟩
 obtain⟨A,i,a3⟩:=Ji aD 9 R
 refine⟨((b.tr i).cl R),?_⟩
 have H:=aG.mx Worth.no257 a3 R (R:9+2=11)
 refine Js3 R U254 R R<|Jt1<|Jd<|Ob h λah aU aQ=>?_
 clear h
 refine Jx1 (λB n=>∃o,∃z:VI,∃u s,B=[(3,.slice u z.length s)]/\Stp [5,12] A ai o n/\Oc E6 2 o n 5 u s z/\ah=zw z) ?_ ?_
 refine Jv<|Ju3 [1,18,19] (λk ak B n=>∃o e,∃m:VI,∃v t,B=(3,.slice v m.length t)::(20,vi e)::ak/\Stp [5,12] A ai o n/\Oc E6 2 o n 5 v t m/\0<=e/\zq ((aj.length:Int)-e)=k/\cntM (da p0 aj) k e m=some ah) ⟨_,_,⟨A,0,([]:VI),aw,ay,R,Jo3,(aE.stp<|T3 d b i),(by decide),(by simp),aU⟩,(KM R)⟩ ?_
 rintro k _ bD ⟨O,e,m,v,t,rfl,j,ab,ad,x,h⟩
 rcases k with _|k
 have y:=h;obtain⟨a4,h⟩:=exq y
 have K:=dcf x
 refine Jf3 R<|Jq<|Jx2 R K<|Jc1<|Jt<|Jt ?_
 cases h
 have h:=y
 refine Jb1 ?_
 cases h
 exact Jw1 _ ⟨O,m,v,t,R,j.wk R,ab,R⟩<|KM R
 obtain⟨a4,h,y⟩:=BI h;unfold da at h
 have K:=dct x
 refine Jf3 R<|Jq<|Jw2 R K<|Js<|Jp<|Jq<|Jv<|Jj3<|Ob h λbK ae h=>Jd3 R H.rdc ae U254 Z257 ?_
 obtain⟨bj,aW,aS⟩:=((H.stp j).rdc).gSt ae
 obtain⟨ba,bu,rfl,bk⟩:=Worth.un aW
 refine Jg4 tv R (Jh4 (haE aS) I257 Z257 R)<|Jy3 O 12 R X257 R λbi bE P p aI=>Tv<|Jm4 P 12 R Z257 R aI R λbF q aJ=>Tv<|Jd<|Jm3 1 R<|Je3 R U32 R Z27<|Jc3 R I27 ((C.stp<|T5 b i j p q).ld 2 R R)<|Je3 R U257 R Z2<|Jc3 R I2 (aJ.ld 0 R R)<|Ob h λa6 af h=>Jd3 R F af U27 Z2<|Jc3 R I2 ((F.stp<|T4 i j p q).gInt af)<|Jf R (c7 R R R<|show ¬(2:Int)=0 by decide) (Ji4 P 13 [(Int.tmod a6 2)] R Y27 aR R λbd bg bG ao Q aK=>Tv<|Ob h λa7 a0 h=>Jd4 ao E6 5 [] R Y27 aR R (ab.stp<|T3 p q Q) (Sl.srcP (bo _) aK.rdc) aV a0 R λav ax bH ap au aL=>Tv<|Jc 1 R<|Jz<|Jp<|Jg3 R<|wr2 ad x H.len_le ▸ ?_)
 cases h
 exact Ja2 ⟨ap,e+1,a7,av,ax,R,(T5 j p q Q au).wk R,aL,nxz ad,nxm x,y⟩ R
 rintro _ bC ⟨an,z,u,s,rfl,ar,aH,rfl⟩
 have h:=yI aQ
 refine Jp<|Jf3 R<|Ju<|Jb2 (l:=[.tmp 2]) results180 (Jq2 R R) R ?_
 cases h
 exact⟨(λaz=>ren [(5,2)]<|an az),u,s,R,((ac.stp<|T8 f a c g d b i ar).map (ren [(5,2)]) R R),(aH.map (ren [(5,2)]) R R)⟩
 refine JT λh=>Jx R<|Jf3 R<|Ju<|Jw<|Jb2 (l:=[.tmp 2]) results180 (Jq2 R R) R ?_
 cases h
 exact⟨M,none,0,R,(ac.stp<|T3 f a c),zC⟩
theorem mO {bW bU b0 b2 bX b1}{p0:Parity}{bZ b3 bY bV}{p1:Stage}(en:Rd Ri J w 0 bW bU p0.Arena.Owner) (eo:Rd Rs J w 0 b0 b2 p0.Arena.Next) (ep:Rd Ri J w 0 bX b1 p0.Prio) (eq:Rd Ri J w 0 bZ b3 p1.Won) (es:Rd Ri J w 0 bY bV p1.Region){r:Stage×Int}(h:er p0 p1=some r):Ret prog 260 [.agg #[.slice bW p0.Arena.Owner.length bU,.slice b0 p0.Arena.Next.length b2,.slice bX p0.Prio.length b1],.agg #[.slice bZ p1.Won.length b3,.slice bY p1.Region.length bV,vi p1.At]] w (λfn a=>∃(b:Col) (c5:Option Addr) (c8:Nat) (c6:Option Addr) (c9:Nat),fn= .tuple #[.agg #[.slice c5 r.1.Won.length c8,.slice c6 r.1.Region.length c9,vi r.1.At],vi r.2]/\Ent J w b a/\Oc E6 2 b a 2 c5 c8 r.1.Won/\Oc E6 2 b a 3 c6 c9 r.1.Region):=by
 unfold er at h
 refine Jp3 J func260 R ntmps260 R λbr=>Jj3<|Jx3 J 2 R λfH fZ dq B eg=>Tv<|Jx3 dq 3 R λfI gu dy A ej=>Tv<|Jy3 dy 4 R X261 R λfJ gz dm x bc=>Tv<|Jb 1 R<|Jj3 ?_
 have b5:=ej.stp x
 refine Jg4 tv R (Jh4 (haE b5.cells) I261 Z261 R)<|Ob h λc e4 h=>?_
 have b7:=eq.stp (T3 B A x)
 have ce:=es.stp (T3 B A x)
 refine Jw3 R call279 (oc (J:=Mk dm) (p0:=p1) (Jn3 b7) (Jn3 ce) e4) ?_
 rintro _ f5 ⟨fR,p,q,i,j,rfl,dI,dU,dW⟩
 obtain⟨dr,s,cX⟩:=Ji dI 5 R
 refine Tv<|?_
 have bg:=dU.mx (aT _) cX R (R:5+2=7)
 have aI:=dW.mx (aT _) cX R (R:5+3=8)
 refine Jy3 dr 9 R X261 R λai gi bJ n d6=>Tv<|Jm4 bJ 9 R Z261 R d6 R λgm o ak=>Tv<|Jd<|Jj3 ?_
 have cn:=eg.stp (T5 A x s n o)
 refine Jg4 tv R (Jh4 (haE cn.cells) I32 Z32 R) ?_
 have co:=b5.stp (T3 s n o)
 refine Jg4 tv R (Jh4 (haE co.cells) I261 Z261 R)<|Ob h λaZ e5 h=>?_
 have cp:=en.stp (T6 B A x s n o)
 have cq:=eo.stp (T6 B A x s n o)
 have cr:=ep.stp (T6 B A x s n o)
 have cs:=b7.stp (T3 s n o)
 have ct:=ce.stp (T3 s n o)
 refine Jw3 R call280 (jj (J:=Mk bJ) (p0:=p0) (p1:=p1) (Jn3 cp) (Jn3 cq) (Jn3 cr) (Jn3 cs) (Jn3 ct) e5) ?_
 rintro _ gt ⟨fU,fB,fx,rfl,dL,eh⟩
 obtain⟨dx,k,fg⟩:=Ji dL 10 R
 refine Tv<|?_
 have E:=eh.mx (aT _) fg R (R:10+2=12)
 refine Jb 1 R<|Jq<|Jj3 ?_
 have cu:=cn.stp k
 refine Jg4 tv R (Jh4 (haE cu.cells) I32 Z32 R) ?_
 have aJ:=co.stp k
 refine Jg4 tv R (Jh4 (haE aJ.cells) I261 Z261 R)<|Ob h λft e6 h=>?_
 have cv:=cp.stp k
 have cw:=cq.stp k
 have cx:=cr.stp k
 have bm:=cs.stp k
 have bn:=ct.stp k
 refine Jw3 R call281 (ru (J:=Mk dx) (p0:=p0) (p1:=p1) (Jn3 cv) (Jn3 cw) (Jn3 cx) (Jn3 bm) (Jn3 bn) e6) ?_
 rintro _ df ⟨fV,rfl,dM⟩
 obtain⟨az,f,fY⟩:=Ji dM 13 R
 refine Tv<|Jb 1 R ?_
 revert h
 cases fO:(!ft)
 refine JF λh=>Jy R<|Js<|Jp<|Jq<|Jj3 ?_
 have bd:=cu.stp f
 refine Jg4 tv R (Jh4 (haE bd.cells) I32 Z32 R) ?_
 have b8:=aJ.stp f
 refine Jg4 tv R (Jh4 (haE b8.cells) I261 Z261 R)<|Ob h λav fa h=>?_
 have b9:=cv.stp f
 have ca:=cw.stp f
 have aj:=cx.stp f
 have cc:=bm.stp f
 have cd:=bn.stp f
 refine Jw3 R call283 (oh (J:=Mk az) (p0:=p0) (p1:=p1) (Jn3 b9) (Jn3 ca) (Jn3 aj) (Jn3 cc) (Jn3 cd) fa) ?_
 rintro _ db ⟨fQ,rfl,dH⟩
 obtain⟨X,m,fX⟩:=Ji dH 15 R
 refine Tv<|Jb 1 R<|Jf3 R ?_
 revert h
 cases fK:decide (0<=av)
 refine JF λh=>Jy R<|Js<|Jp<|Jq<|Jq<|Js1 (J:=X) [2,3] none [(0,2),(2,2),(7,2),(10,2),(1,0),(3,0),(4,2),(5,0),(6,1),(8,1),(9,2)] [] (by kernel_rfl) (by kernel_rfl) λge t=>Je3 R U32 R Z30<|Je3 R U261 R Z2<|Jn 2 R ?_
 have cf:=bd.stp (m.tr t)
 refine Jg R (Jh4 (haC (cf.lds 0 2 R) R) I30 Z30 R) ?_
 have bf:=b8.stp (m.tr t)
 refine Jg R (Jd2 I2 R R<|hvC (bf.ld 2 R R) R)<|Jf R (c7 R R R<|show ¬(2:Int)=0 by decide) (Jg R (Jh4 (haC bf.cells R) I261 Z261 R)<|Ob h λgD eZ h=>Jw3 R call282 (fo (J:=Mk X) (p0:=p1) (Jn3<|cc.stp<|m.tr t) (Jn3<|cd.stp<|m.tr t) eZ) ?_)
 rintro _ gf ⟨fS,fz,fF,rfl,dJ,d1⟩
 obtain⟨dt,u,fe⟩:=Ji dJ 17 R
 have bN:=(T3 m t u)
 refine⟨(u.cl R),Ob h λdg e0 h=>Jw3 R call276 (il (J:=Mk dt) (p0:=p0.Arena) (Jn3<|b9.stp bN) (Jn3<|ca.stp bN) (Jn3 (d1.mx (aT _) fe R (R:17+2=19)).rdc) (Jn3 (E.stp<|T4 f m t u).rdc) e0) ?_⟩
 rintro _ dd ⟨fT,fE,fA,rfl,dK,d2⟩
 obtain⟨a3,z,ff⟩:=Ji dK 20 R
 refine⟨((u.tr z).cl R),?_⟩
 have bh:=d2.mx (aT _) ff R (R:20+2=22)
 refine Js3 R U27 R R<|Jt1<|Jd<|Ob h λc0 eU ey=>?_
 clear h
 refine Jt3 [2,4,6] (λe g a=>∃b,∃I:VI×VI,g=e/\Stp [7,8] a3 dd b a/\Oc E6 2 b a 7 p q I.1/\c.Won.length=I.1.length/\Oc E6 2 b a 8 i j I.2/\c.Region.length=I.2.length/\c0=zw I) ?_ ?_
 have bO:=(T8 n o k f m t u z)
 refine Jv<|Ju3 [2,3,4,6,119,120] (λd e g a=>∃b G,∃F:VI×VI,g=(121,vi G)::e/\Stp [7,8] a3 dd b a/\Oc E6 2 b a 7 p q F.1/\c.Won.length=F.1.length/\Oc E6 2 b a 8 i j F.2/\c.Region.length=F.2.length/\0<=G/\zq ((dg.length:Int)-G)=d/\cntM (cO p1 dg) d G F=some c0) ⟨_,_,⟨a3,0,(c.Won,c.Region),R,Jo3,(bg.stp bO),R,(aI.stp bO),R,(by decide),(by simp),eU⟩,(KM R)⟩ ?_
 rintro d _ gh ⟨bI,G,F,rfl,ac,bi,bA,bj,bB,eD,cy,h⟩
 rcases d with _|d
 have aS:=h;obtain⟨fk,h⟩:=exq aS
 have P:=dcf cy
 refine Jf3 R<|Jq<|Jx2 R P<|Jc1<|Jt<|Jt ?_
 cases h
 have h:=aS
 refine Jb1 ?_
 cases h
 exact Jw1 _ ⟨bI,(F.1,F.2),R,ac.wk R,bi,bA,bj,bB,R⟩<|KM R
 obtain⟨fk,h,aS⟩:=BI h;unfold cO at h
 have P:=dct cy
 refine Jf3 R<|Jq<|Jw2 R P<|Js<|Jp<|Jq<|Jv<|Jj3<|Ob h λgE cG h=>Jd3 R bh.rdc cG U27 Z2<|Jc3 R I2 ((bh.stp ac).rdc.gInt cG)<|Jb 1 R<|Jj3<|Je3 R U261 R Z27 ?_
 have ch:=ak.stp (T7 k f m t u z ac)
 refine Jc3 R I27 (ch.ld 0 R R)<|Jn 1 R<|Je3 R U261 R Z2<|Jc3 R I2 ((bf.stp<|T3 u z ac).ld 2 R R)<|Jf R (c7 R R R<|show ¬(2:Int)=0 by decide) (Ob h λgF e1 h=>Jf R (Jg2 bi.rdc e1 U27 Z2 R R bA R)<|Ob h λdk cU h=>Jk1 (J:=bI) (E:=E6) 7 [] R R R R R R R R Z2 R R R R bi cU λgj du a8 d4=>Tv<|?_)
 have eK:c.Won.length=dk.length:=bA.trans (Ju2 cU).2.2.2.symm
 refine Jd<|Jk3<|Je3 R U261 R Z27<|Jc3 R I27 ((ch.stp a8).ld 1 R R)<|Jn 1 R<|Ob h λgG e2 h=>Jf R (Jg2 bj.rdc e2 U27 Z2 R R bB R)<|Ob h λdl cV h=>Jk1 (J:=du) (E:=E6) 8 [] R R R R R R R R Z2 R R R R (bj.stp a8) cV λgk dv bS d5=>Tv<|?_
 have eL:c.Region.length=dl.length:=bB.trans (Ju2 cV).2.2.2.symm
 refine Jo<|Jz<|Jp<|Jg3 R ?_
 have eX:zr .i64 (G+1)=G+1:=wr1 eD (Jn2 P) bh.len_le
 rw[eX]
 have P:=Jn2 P
 cases h
 exact Ja2 ⟨dv,G+1,(dk,dl),R,(T3 ac a8 bS).wk R,(d4.stp bS),eK,d5,eL,by omega,by omega,aS⟩ R
 rintro _ gg ⟨ay,I,rfl,ab,d3,eJ,cg,cE,rfl⟩
 have h:=yI ey
 refine Jp<|Jj3<|Je3 R U261 R Z2<|Jz3 ay 9 (off:=2) (vc:=[vi (-1)]) (cs':=[.slice p c.Won.length q,.slice i c.Region.length j,vi (-1)]) R Z2 R (ak.stp<|T7 k f m t u z ab) R λde M ci=>Tv<|Jd<|Jq<|Jj3<|Je3 R U261 R Z27<|Jc3 R I27 (ci.ld 1 R R)<|Js3 R U27 R R<|Jb 1 R ?_
 have eC:(c.Region.length:Int)<=9223372036854775807:=(by rw[cE];exact cg.len_le)
 refine Ob h λc1 eV ez=>?_
 clear h
 refine Jt3 [4,6] (λe g a=>∃b,∃aq:Int×VI,g=e/\Stp [8,9] ay de b a/\Oc E6 2 b a 8 i j aq.2/\c.Region.length=aq.2.length/\Bc b a 9 ai 261 [.slice p c.Won.length q,.slice i c.Region.length j,vi aq.1]/\c1=zw aq) ?_ ?_
 refine Jv<|Ju3 [2,4,6,139,140] (λd e g a=>∃b Q,∃v:Int×VI,g=(141,vi Q)::e/\Stp [8,9] ay de b a/\Oc E6 2 b a 8 i j v.2/\c.Region.length=v.2.length/\Bc b a 9 ai 261 [.slice p c.Won.length q,.slice i c.Region.length j,vi v.1]/\0<=Q/\zq ((c.Region.length:Int)-Q)=d/\cntM (cb p0) d Q v=some c1) ⟨_,_,⟨ay,0,(((-1):Int),I.2),R,Jo3,(cg.stp M),cE,ci,(by decide),(by simp),eV⟩,(KM R)⟩ ?_
 rintro d _ fr ⟨Y,Q,v,rfl,aG,O,am,bk,cC,aN,h⟩
 rcases d with _|d
 have aU:=h;obtain⟨fl,h⟩:=exq aU
 have bw:=dcf aN
 refine Jf3 R<|Jq<|Jx2 R bw<|Jc1<|Jt<|Jt ?_
 cases h
 have h:=aU
 refine Jb1 ?_
 cases h
 exact Jw1 _ ⟨Y,(v.1,v.2),R,aG.wk R,O,am,bk,R⟩<|KM R
 obtain⟨fl,h,aU⟩:=BI h;unfold cb at h
 have bw:=dct aN
 refine Jf3 R<|Jq<|Jw2 R bw<|Js<|Jp<|Jq<|Jv<|Jl3 1 R<|Ob h λfs cH h=>Jf R (Jg2 O.rdc cH U27 Z2 R R am R)<|Jc3 R I2 (O.rdc.gInt cH)<|Jb 2 R<|Jf3 R<|Ob h λan h eA=>Jt3 [2,4,6,139,140,141] (λe g a=>∃b,g=e/\Stp [8,9] Y fr b a/\Oc E6 2 b a 8 i j an.2/\c.Region.length=an.2.length/\Bc b a 9 ai 261 [.slice p c.Won.length q,.slice i c.Region.length j,vi an.1]) ?_ ?_
 revert h
 cases fN:decide (0<=fs)
 refine JF λh=>Jy R<|Js ?_
 cases h
 exact Jw1 _ ⟨Y,R,Jo3,O,am,bk⟩<|KM R
 refine JT λh=>Jx R<|Jq<|Js1 (J:=Y) [0,2,9] none [(0,2),(2,2),(3,2),(5,2),(1,0),(4,0),(6,2),(7,0),(8,2),(9,1)] [] (by kernel_rfl) (by kernel_rfl) λgo ad=>Je3 R U261 R Z27<|Jn 1 R<|Je3 R U32 R Z27<|Jn 1 R ?_
 have cj:=bk.stp ad
 refine Jg R (Jd2 I27 R R<|hvC (cj.ld 1 R R) R) ?_
 have ck:=cf.stp (T6 u z ab M aG ad)
 refine Jg R (Jd2 I27 R R<|hvC (ck.ld 2 R R) R)<|Ob h λgH cI h=>Jd3 R aj cI U27 Z2 ?_
 have bl:=aj.stp (T8 m t u z ab M aG ad)
 refine Jg R (Jd2 I2 R R<|hvC (bl.gInt cI) R)<|Ob h λgI e3 h=>Jf R (Jg2 O.rdc e3 U27 Z2 R R am R)<|Ob h λfw cW h=>Jk1 (J:=Y) (E:=E6) 8 [] R R R R R R R R Z2 R R R R (O.stp ad) cW λgp a4 ae ed=>⟨(ae.cl R),?_⟩
 have eO:c.Region.length=fw.length:=am.trans (Ju2 cW).2.2.2.symm
 refine Jt1<|Jd<|Js1 (J:=a4) [0,2,9] (some 9) [(0,2),(2,2),(4,2),(1,0),(3,0),(5,2),(6,0),(7,2),(8,2)] [(9,1)] (by kernel_rfl) (by kernel_rfl) λgq af=>Je3 R U261 R Z2<|Je3 R U32 R Z27<|Jn 1 R ?_
 have cl:=cj.stp (ae.tr af)
 refine Jg R (Jd2 I2 R R<|hvC (cl.ld 2 R R) R)<|Jg R (Jd2 I27 R R<|hvC ((ck.stp<|ae.tr af).ld 2 R R) R)<|Ob h λaY cJ h=>Jd3 R bl cJ U27 Z2<|Jg R (Jd2 I2 R R<|hvC ((bl.stp<|ae.tr af).gInt cJ) R)<|Jf R (qv R R R)<|Je3 R U261 R Z2<|Jt1<|Jz3 a4 9 (off:=2) (vc:=[vi<|if v.1<aY then aY else v.1]) (cs':=[.slice p c.Won.length q,.slice i c.Region.length j,vi<|if v.1<aY then aY else v.1]) R Z2 R cl R λgr bT ee=>Tv<|Jo ?_
 cases h
 exact Jw1 _ ⟨a4,R,(T4 ad ae af bT).wk R,(ed.stp<|af.tr bT),eO,ee⟩<|KM R
 rintro _ gn ⟨dw,rfl,dE,eb,eN,ec⟩
 have h:=eA
 refine Jz<|Jp<|Jg3 R<|wr2 cC aN eC ▸ ?_
 cases h
 exact Ja2 ⟨dw,Q+1,(an.1,an.2),R,(aG.tr dE).wk R,eb,eN,ec,nxz cC,nxm aN,aU⟩ R
 rintro _ gl ⟨bK,aq,rfl,a9,d7,eM,ea,rfl⟩
 have h:=yI ez
 refine Jp<|Jj3<|Jg4 tv R (Jh4 (haE ea.cells) I261 Z261 R)<|Jm4 bK 4 R Z261 R (bc.stp<|T12 s n o k f m t u z ab M a9) R λgs ba ef=>Tv<|Jb 1 R<|Ju<|Jb2 (l:=[.cell 4 261,.tmp 5]) results260 (bv R ef I261 Z261 R<|Jq2 R R) R ?_
 cases h
 exact⟨(λah=>ren [(7,2),(8,3)]<|bK ah),p,q,i,j,(by simp only[eJ,eM]),((br.stp<|T16 B A x s n o k f m t u z ab M a9 ba).map (ren [(7,2),(8,3)]) R R),((d3.stp<|T3 M a9 ba).map (ren [(7,2),(8,3)]) R R),((d7.stp ba).map (ren [(7,2),(8,3)]) R R)⟩
 refine JT λh=>Jx R<|Jq<|Jj3<|Je3 R U261 R Z27 ?_
 have aH:=ak.stp (T3 k f m)
 refine Jc3 R I27 (aH.ld 1 R R)<|Js3 R U27 R R<|Jb 1 R<|Ob h λc4 eS eu=>?_
 clear h
 refine Jt3 [4,6,7,12] (λe g a=>∃b,∃au:VI,g=e/\Stp [8] X db b a/\Oc E6 2 b a 8 i j au/\c.Region.length=au.length/\c4=zw au) ?_ ?_
 refine Jv<|Ju3 [2,4,6,7,12,72,73] (λd e g a=>∃b U,∃ar:VI,g=(74,vi U)::e/\Stp [8] X db b a/\Oc E6 2 b a 8 i j ar/\c.Region.length=ar.length/\0<=U/\zq ((c.Region.length:Int)-U)=d/\cntM (cm p0 av) d U ar=some c4) ⟨_,_,⟨X,0,c.Region,R,Jo3,(aI.stp<|T5 n o k f m),R,(by decide),(by simp),eS⟩,(KM R)⟩ ?_
 rintro d _ fp ⟨bG,U,ar,rfl,aC,N,al,cA,aL,h⟩
 rcases d with _|d
 have aQ:=h;obtain⟨fi,h⟩:=exq aQ
 have bt:=dcf aL
 refine Jf3 R<|Jq<|Jx2 R bt<|Jc1<|Jt<|Jt ?_
 cases h
 have h:=aQ
 refine Jb1 ?_
 cases h
 exact Jw1 _ ⟨bG,ar,R,aC.wk R,N,al,R⟩<|KM R
 obtain⟨fi,h,aQ⟩:=BI h;unfold cm at h
 have bt:=dct aL
 refine Jf3 R<|Jq<|Jw2 R bt<|Js<|Jp<|Jq<|Jv<|Jl3 1 R<|Ob h λfu cP h=>Jf R (Jg2 N.rdc cP U27 Z2 R R al R)<|Jc3 R I2 (N.rdc.gInt cP)<|Jb 2 R<|Jl3 3 R<|Ob h λcY h ev=>Jk4 [2,4,6,7,12,13,72,73,74] 85 cY bG fp 4 tv ?_ ?_
 revert h
 cases fL:decide (0<=fu)
 refine JF λh=>Jn 4 R ?_
 cases h
 exact Jl4 tv R
 refine JT λh=>Jn 4 R ?_
 cases h
 exact Jl4 tv R
 rintro _ fq _ ⟨rfl,ax,Z⟩
 have h:=ev
 refine Jd<|Ob h λbD h ew=>Jt3 [2,4,6,7,12,72,73,74] (λe g a=>∃b,g=e/\Stp [8] ax fq b a/\Oc E6 2 b a 8 i j bD/\c.Region.length=bD.length) ?_ ?_
 revert h
 cases fM:cY
 refine JF λh=>Jy R<|Js ?_
 cases h
 exact Jw1 _ ⟨ax,R,Jo3,(N.stp Z),al⟩<|KM R
 have bP:=(T3 m aC Z)
 refine JT λh=>Jx R<|Js1 (J:=ax) [0,2,9] none [(0,2),(2,2),(3,2),(5,2),(1,0),(4,0),(6,2),(7,0),(8,2),(9,1)] [] (by kernel_rfl) (by kernel_rfl) λf7 aa=>Je3 R U261 R Z27<|Jn 1 R<|Je3 R U32 R Z27<|Jn 1 R<|Jg R (Jd2 I27 R R<|hvC ((aH.stp<|T3 aC Z aa).ld 1 R R) R)<|Jg R (Jd2 I27 R R<|hvC ((bd.stp<|bP.tr aa).ld 2 R R) R)<|Ob h λgN cQ h=>Jd3 R aj cQ U27 Z2<|Jg R (Jd2 I2 R R<|hvC ((aj.stp<|bP.tr aa).gInt cQ) R)<|Ob h λgO fb h=>Jf R (Jg2 N.rdc fb U27 Z2 R R al R)<|Ob h λfv cS h=>Jk1 (J:=ax) (E:=E6) 8 [] R R R R R R R R Z2 R R R R (N.stp<|Z.tr aa) cS λf8 dp bR dV=>⟨(bR.cl R),?_⟩
 have eG:c.Region.length=fv.length:=al.trans (Ju2 cS).2.2.2.symm
 refine Jt1<|Jo ?_
 cases h
 exact Jw1 _ ⟨dp,R,(aa.tr bR).wk R,dV,eG⟩<|KM R
 rintro _ f6 ⟨dn,rfl,dC,dT,eF⟩
 have h:=ew
 refine Jz<|Jp<|Jg3 R<|wr2 cA aL aI.len_le ▸ ?_
 cases h
 exact Ja2 ⟨dn,U+1,bD,R,(T3 aC Z dC).wk R,dT,eF,nxz cA,nxm aL,aQ⟩ R
 rintro _ dc ⟨a1,au,rfl,L,dS,eE,rfl⟩
 have h:=yI eu
 refine Jp<|Jq<|Jl3 1 R<|Js3 R U27 R R<|Jb 1 R<|Ob h λcZ eT ex=>?_
 clear h
 refine Jt3 [4,6,12] (λe g a=>∃b,∃aW:VI,g=e/\Stp [8] a1 dc b a/\Oc E6 2 b a 8 i j aW/\c.Region.length=aW.length/\cZ=zw aW) ?_ ?_
 refine Jv<|Ju3 [4,6,12,96,97] (λd e g a=>∃b V,∃ap:VI,g=(98,vi V)::e/\Stp [8] a1 dc b a/\Oc E6 2 b a 8 i j ap/\c.Region.length=ap.length/\0<=V/\zq ((aZ.length:Int)-V)=d/\cntM (d9 aZ av) d V ap=some cZ) ⟨_,_,⟨a1,0,au,R,Jo3,dS,eE,(by decide),(by simp),eT⟩,(KM R)⟩ ?_
 rintro d _ ga ⟨bH,V,ap,rfl,aE,be,bz,cB,aM,h⟩
 rcases d with _|d
 have aR:=h;obtain⟨fj,h⟩:=exq aR
 have bu:=dcf aM
 refine Jf3 R<|Jq<|Jx2 R bu<|Jc1<|Jt<|Jt ?_
 cases h
 have h:=aR
 refine Jb1 ?_
 cases h
 exact Jw1 _ ⟨bH,ap,R,aE.wk R,be,bz,R⟩<|KM R
 obtain⟨fj,h,aR⟩:=BI h;unfold d9 at h
 have bu:=dct aM
 refine Jf3 R<|Jq<|Jw2 R bu<|Js<|Jp<|Jq<|Jv<|Jj3<|Ob h λgB cF h=>Jd3 R E.rdc cF U27 Z2<|Jc3 R I2 ((E.stp<|T4 f m L aE).rdc.gInt cF)<|Jb 1 R<|Jk3<|Je3 R U261 R Z27<|Jc3 R I27 ((aH.stp<|L.tr aE).ld 1 R R)<|Jn 2 R<|Ob h λgC eY h=>Jf R (Jg2 be.rdc eY U27 Z2 R R bz R)<|Ob h λdj cT h=>Jk1 (J:=bH) (E:=E6) 8 [] R R R R R R R R Z2 R R R R be cT λgb ds dD dY=>Tv<|?_
 have eI:c.Region.length=dj.length:=bz.trans (Ju2 cT).2.2.2.symm
 refine Jo<|Jz<|Jp<|Jg3 R<|wr2 cB aM E.len_le ▸ ?_
 cases h
 exact Ja2 ⟨ds,V+1,dj,R,(aE.tr dD).wk R,dY,eI,nxz cB,nxm aM,aR⟩ R
 rintro _ f9 ⟨a2,aW,rfl,aD,dX,eH,rfl⟩
 have h:=yI ex
 refine Jp<|Jl3 1 R<|Je3 R U261 R Z2<|Jz3 a2 9 (off:=2) (vc:=[vi av]) (cs':=[.slice p c.Won.length q,.slice i c.Region.length j,vi av]) R Z2 R (aH.stp<|L.tr aD) R λgc aF dZ=>Tv<|Jd<|Jj3<|Jg4 tv R (Jh4 (haE dZ.cells) I261 Z261 R)<|Jm4 a2 4 R Z261 R (bc.stp<|T9 s n o k f m L aD aF) R λgd a7 d0=>Tv<|Jb 1 R<|Ju<|Jw<|Jb2 (l:=[.cell 4 261,.tmp 5]) results260 (bv R d0 I261 Z261 R<|Jq2 R R) R ?_
 cases h
 exact⟨(λah=>ren [(7,2),(8,3)]<|a2 ah),p,q,i,j,(by simp only[eH]),((br.stp<|T13 B A x s n o k f m L aD aF a7).map (ren [(7,2),(8,3)]) R R),((bg.stp<|T9 n o k f m L aD aF a7).map (ren [(7,2),(8,3)]) R R),((dX.stp<|aF.tr a7).map (ren [(7,2),(8,3)]) R R)⟩
 refine JT λh=>Jx R<|Jq<|Jl3 1 R<|Js3 R U27 R R<|Jb 1 R<|Ob h λc2 eW eB=>?_
 clear h
 refine Jt3 [3,4,6,7] (λe g a=>∃b,∃aX:VI,g=e/\Stp [8] az df b a/\Oc E6 2 b a 8 i j aX/\c.Region.length=aX.length/\c2=zw aX) ?_ ?_
 refine Jv<|Ju3 [3,4,6,7,30,31] (λd e g a=>∃b S,∃ao:VI,g=(32,vi S)::e/\Stp [8] az df b a/\Oc E6 2 b a 8 i j ao/\c.Region.length=ao.length/\0<=S/\zq ((aZ.length:Int)-S)=d/\cntM (d8 p1 aZ) d S ao=some c2) ⟨_,_,⟨az,0,c.Region,R,Jo3,(aI.stp<|T4 n o k f),R,(by decide),(by simp),eW⟩,(KM R)⟩ ?_
 rintro d _ gw ⟨bM,S,ao,rfl,ag,bo,bC,cD,aO,h⟩
 rcases d with _|d
 have aV:=h;obtain⟨fm,h⟩:=exq aV
 have bx:=dcf aO
 refine Jf3 R<|Jq<|Jx2 R bx<|Jc1<|Jt<|Jt ?_
 cases h
 have h:=aV
 refine Jb1 ?_
 cases h
 exact Jw1 _ ⟨bM,ao,R,ag.wk R,bo,bC,R⟩<|KM R
 obtain⟨fm,h,aV⟩:=BI h;unfold d8 at h
 have bx:=dct aO
 refine Jf3 R<|Jq<|Jw2 R bx<|Js<|Jp<|Jq<|Jv<|Jj3<|Ob h λgJ cK h=>Jd3 R E.rdc cK U27 Z2<|Jc3 R I2 ((E.stp<|f.tr ag).rdc.gInt cK)<|Jb 1 R<|Jk3<|Je3 R U261 R Z27<|Jc3 R I27 ((ak.stp<|T3 k f ag).ld 1 R R)<|Jn 1 R<|Je3 R U261 R Z2<|Jc3 R I2 ((aJ.stp<|f.tr ag).ld 2 R R)<|Ob h λgK e7 h=>Jf R (Jg2 bo.rdc e7 U27 Z2 R R bC R)<|Ob h λdi cR h=>Jk1 (J:=bM) (E:=E6) 8 [] R R R R R R R R Z2 R R R R bo cR λgx dz dF ek=>Tv<|?_
 have eQ:c.Region.length=di.length:=bC.trans (Ju2 cR).2.2.2.symm
 refine Jo<|Jz<|Jp<|Jg3 R<|wr2 cD aO E.len_le ▸ ?_
 cases h
 exact Ja2 ⟨dz,S+1,di,R,(ag.tr dF).wk R,ek,eQ,nxz cD,nxm aO,aV⟩ R
 rintro _ gv ⟨bL,aX,rfl,C,ei,eP,rfl⟩
 have h:=yI eB
 refine Jp<|Jj3<|Je3 R U261 R Z2<|Jz3 bL 9 (off:=2) (vc:=[vi (-1)]) (cs':=[.slice p c.Won.length q,.slice i c.Region.length j,vi (-1)]) R Z2 R (ak.stp<|T3 k f C) R λgy D el=>Tv<|Jd<|Jq<|Jj3 ?_
 have bp:=aJ.stp (T3 f C D)
 refine Jg4 tv R (Jh4 (haE bp.cells) I261 Z261 R)<|Je3 R U261 R Z2<|Jc3 R I2 (bp.ld 2 R R)<|Ob h λgL e8 h=>?_
 have bq:=bn.stp (T3 f C D)
 refine Jw3 R call282 (fo (J:=Mk bL) (p0:=p1) (Jn3<|bm.stp<|T3 f C D) (Jn3 bq) e8) ?_
 rintro _ gA ⟨fW,fy,fC,rfl,dN,em⟩
 obtain⟨dA,H,fc⟩:=Ji dN 15 R
 refine Tv<|Jn 1 R<|Ob h λdh e9 h=>Jw3 R call141 (jc (J:=Mk dA) (Jn3 (em.mx (aT _) fc R (R:15+2=17)).rdc) (Jn3 (E.stp<|T4 f C D H).rdc) e9) ?_
 rintro _ da ⟨fP,fG,fD,rfl,dG,dO⟩
 obtain⟨a0,K,fd⟩:=Ji dG 18 R
 refine Tv<|?_
 have bb:=dO.mx (aT _) fd R (R:18+2=20)
 refine Js3 R U27 R R<|Jb 1 R<|Ob h λc3 eR et=>?_
 clear h
 refine Jt3 [4,6] (λe g a=>∃b bE,g=e/\Stp [9] a0 da b a/\Bc b a 9 ai 261 [.slice p c.Won.length q,.slice i c.Region.length j,vi bE]/\c3=zw bE) ?_ ?_
 refine Jv<|Ju3 [3,4,6,49,50] (λd e g a=>∃b T y,g=(51,vi T)::e/\Stp [9] a0 da b a/\Bc b a 9 ai 261 [.slice p c.Won.length q,.slice i c.Region.length j,vi y]/\0<=T/\zq ((dh.length:Int)-T)=d/\cntM (cN p1 dh) d T y=some c3) ⟨_,_,⟨a0,0,((-1):Int),R,Jo3,(el.stp<|H.tr K),(by decide),(by simp),eR⟩,(KM R)⟩ ?_
 rintro d _ f1 ⟨aw,T,y,rfl,aB,b4,cz,aK,h⟩
 rcases d with _|d
 have aP:=h;obtain⟨fh,h⟩:=exq aP
 have bs:=dcf aK
 refine Jf3 R<|Jq<|Jx2 R bs<|Jc1<|Jt<|Jt ?_
 cases h
 have h:=aP
 refine Jb1 ?_
 cases h
 exact Jw1 _ ⟨aw,y,R,aB.wk R,b4,R⟩<|KM R
 obtain⟨fh,h,aP⟩:=BI h;unfold cN at h
 have bs:=dct aK
 refine Jf3 R<|Jq<|Jw2 R bs<|Js<|Jp<|Jq<|Jv<|Jj3<|Ob h λgM cL h=>Jd3 R bb.rdc cL U27 Z2<|Jc3 R I2 ((bb.stp aB).rdc.gInt cL)<|Jb 1 R<|Js1 (J:=aw) [0,3,9] (some 9) [(0,2),(2,2),(4,2),(1,0),(3,0),(5,2),(6,0),(7,2),(8,2)] [(9,1)] (by kernel_rfl) (by kernel_rfl) λf2 a5=>Je3 R U261 R Z2<|Je3 R U261 R Z27<|Jn 1 R ?_
 have b6:=b4.stp a5
 have bQ:=(T4 H K aB a5)
 refine Jg R (Jd2 I2 R R<|hvC (b6.ld 2 R R) R)<|Jg R (Jd2 I27 R R<|hvC ((bp.stp bQ).ld 1 R R) R)<|Ob h λW cM h=>Jd3 R bq cM U27 Z2<|Jg R (Jd2 I2 R R<|hvC ((bq.stp bQ).gInt cM) R)<|Jf R (qv R R R)<|Je3 R U261 R Z2<|Jt1<|Jz3 aw 9 (off:=2) (vc:=[vi<|if y<W then W else y]) (cs':=[.slice p c.Won.length q,.slice i c.Region.length j,vi<|if y<W then W else y]) R Z2 R b6 R λf3 dB dQ=>Tv<|Jo<|Jz<|Jp<|Jg3 R<|wr2 cz aK bb.len_le ▸ ?_
 cases h
 exact Ja2 ⟨aw,T+1,((if y<W then W else y):Int),R,(T3 aB a5 dB).wk R,dQ,nxz cz,nxm aK,aP⟩ R
 rintro _ f0 ⟨bF,bE,rfl,aA,dP,rfl⟩
 have h:=yI et
 refine Jp<|Jj3<|Jg4 tv R (Jh4 (haE dP.cells) I261 Z261 R)<|Jm4 bF 4 R Z261 R (bc.stp<|T10 s n o k f C D H K aA) R λf4 a6 dR=>Tv<|Jb 1 R<|Ju<|Jw<|Jb2 (l:=[.cell 4 261,.tmp 5]) results260 (bv R dR I261 Z261 R<|Jq2 R R) R ?_
 cases h
 exact⟨(λah=>ren [(7,2),(8,3)]<|bF ah),p,q,i,j,(by simp only[eP]),((br.stp<|T14 B A x s n o k f C D H K aA a6).map (ren [(7,2),(8,3)]) R R),((bg.stp<|T10 n o k f C D H K aA a6).map (ren [(7,2),(8,3)]) R R),((ei.stp<|T5 D H K aA a6).map (ren [(7,2),(8,3)]) R R)⟩
theorem pk {H G M O K N}{p0:Parity}(aG:Rd Ri J w 0 H G p0.Arena.Owner) (aH:Rd Rs J w 0 M O p0.Arena.Next) (aI:Rd Ri J w 0 K N p0.Prio){r:(List Stage)}(h:iK p0=some r):Ret prog 219 [.agg #[.slice H p0.Arena.Owner.length G,.slice M p0.Arena.Next.length O,.slice K p0.Prio.length N]] w (Pvs Stage.ep261 261 J w r):=by
 unfold iK at h
 refine Jp3 J func219 R ntmps219 R λaJ=>Jj3<|Jx3 J 2 R λa0 ba af i T=>Tv<|Jb 1 R<|Jj3<|Jg4 tv R (Jh4 (haE T.cells) I32 Z32 R)<|Ob h λa aQ h=>?_
 have U:=aG.stp i
 have V:=aH.stp i
 have W:=aI.stp i
 refine Jw3 R call259 (ny (J:=Mk af) (p0:=p0) (Jn3 U) (Jn3 V) (Jn3 W) aQ) ?_
 rintro _ t ⟨a6,L,Q,A,x,rfl,aq,au,av⟩
 obtain⟨f,C,Z⟩:=Ji aq 3 R
 refine Tv<|Jb4 f Stage.ep261 7 [5,6] (parts:=[(0,.tmp 8)]) (cells:=[.slice L a.Won.length Q,.slice A a.Region.length x,vi a.At]) (xs:=([a]:List Stage)) R underlying258 kb R (Jj4 ⟨[.slice L a.Won.length Q],[.slice A a.Region.length x,vi a.At],Zl f t [5],Zl f t [6],R,Zl.sp (l1:=[5]) (l2:=[6]) R,Zl.sr (l1:=[5]) (l2:=[6]),⟨_,_,R,(au.mx (aT _) Z R (R:3+2=5))⟩,⟨[.slice A a.Region.length x],[vi a.At],Zl f t [6],Zl f t [],R,Zl.sp (l1:=[6]) (l2:=[]) R,Zl.sr (l1:=[6]) (l2:=[]),⟨_,_,R,(av.mx (aT _) Z R (R:3+3=6))⟩,R⟩⟩) λam aS aU B D aw=>Tv<|Jb 1 R<|Ob h λaR aM aK=>?_
 clear h
 refine Jv<|Ju3 [1] (λp ae ak ab=>∃ad,∃q:(List Stage),∃n m,ak=(3,.slice n q.length m)::ae/\Stp [7,8,11,12,13,14] B aU ad ab/\Oc Stage.ep261 261 ad ab 7 n m q/\bn (ey p0) p q=some aR) ⟨_,_,⟨B,(([a]:List Stage):(List Stage)),am,aS,R,Jo3,aw,aM⟩,(KM R)⟩ ?_
 rintro p _ bb ⟨ag,q,n,m,rfl,v,o,h⟩
 rcases p with _|p
 cases h
 obtain⟨a7,h,X⟩:=BI h;unfold ey at h
 refine Jv<|Jl3 2 R<|Js3 R U258 R R<|Jn 1 R<|Ob h λac Y h=>Jd3 R o.rdc Y U258 Z261 ?_
 obtain⟨a3,aN,aL⟩:=(o.rdc).gSt Y
 obtain⟨aW,a8,aX,a9,rfl,aE,aF⟩:=Stage.un aN
 refine Jg4 tv R (Jh4 (haE aL) I261 Z261 R)<|Jy3 ag 8 R X261 R λa1 bc u c ax=>Tv<|Jm4 u 8 R Z261 R ax R λbd d S=>Tv<|Jd<|Jq<|Jj3<|Je3 R U261 R Z2<|Jc3 R I2 (S.ld 2 R R)<|Jb 1 R ?_
 revert h
 cases a4:(ac.At==(-1))
 have g:=(T5 C D v c d)
 refine JF λh=>Jy R<|Js<|Jp<|Jj3<|Jg4 tv R (Jh4 (haE (T.stp g).cells) I32 Z32 R)<|Jg4 tv R (Jh4 (haE S.cells) I261 Z261 R)<|Ob h λb aO h=>Jw3 R call260 (mO (J:=Mk u) (p0:=p0) (p1:=ac) (Jn3<|U.stp g) (Jn3<|V.stp g) (Jn3<|W.stp g) (Jn3<|aE.stp<|c.tr d) (Jn3<|aF.stp<|c.tr d) aO) ?_
 rintro _ be ⟨a5,P,I,y,z,rfl,ar,ay,az⟩
 obtain⟨ah,E,aa⟩:=Ji ar 9 R
 refine Tv<|Jn 3 R<|Jy3 ah 13 R X261 R λa2 bf e j aA=>Tv<|Jm4 e 13 R Z261 R aA R λs k aB=>Tv<|Jb 1 R<|Jm3 1 R<|Jg4 tv R (Jh4 (haE aB.cells) I261 Z261 R)<|Jb4 e Stage.ep261 14 [11,12] (parts:=[(0,.tmp 27)]) (cells:=[.slice P b.1.Won.length I,.slice y b.1.Region.length z,vi b.1.At]) (xs:=([b.1]:List Stage)) R underlying258 kb R (Jj4 ⟨[.slice P b.1.Won.length I],[.slice y b.1.Region.length z,vi b.1.At],Zl e s [11],Zl e s [12],R,Zl.sp (l1:=[11]) (l2:=[12]) R,Zl.sr (l1:=[11]) (l2:=[12]),⟨_,_,R,((ay.mx (aT _) aa R (R:9+2=11)).stp (j.tr k))⟩,⟨[.slice y b.1.Region.length z],[vi b.1.At],Zl e s [12],Zl e s [],R,Zl.sp (l1:=[12]) (l2:=[]) R,Zl.sr (l1:=[12]) (l2:=[]),⟨_,_,R,((az.mx (aT _) aa R (R:9+3=12)).stp (j.tr k))⟩,R⟩⟩) λaZ aY bg ai F aC=>Tv<|Ob h λaV aP h=>Jd4 ai Stage.ep261 7 [14] R underlying258 kb R (o.stp<|T6 c d E j k F) aC.src (lJ R) aP R λan ao bh aj al aD=>Tv<|Jc 1 R<|Jz ?_
 cases h
 exact Ja2 ⟨aj,aV,an,ao,R,(T8 v c d E j k F al).wk R,aD,X⟩ R
 refine JT λh=>Jx R<|Jf3 R<|Ju<|Jw<|Ja1<|Jw ?_
 cases h
 obtain rfl:=zt X
 have h:=yL aK
 refine Ja1<|Jb2 (l:=[.tmp 2]) results219 (Jq2 R R) R ?_
 cases h
 exact⟨(λap=>ren [(7,2)]<|u ap),n,m,R,((aJ.stp<|T6 i C D v c d).map (ren [(7,2)]) R R),((o.stp<|c.tr d).map (ren [(7,2)]) R R)⟩
end
end Go.Proofs.YtgbippnfaoedmaaGreatDoor
