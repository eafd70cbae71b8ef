/- The walks, part 9. By program. -/
import Derived.Test.YtldlmopdhmaceaaGreatDoorFns8BE
set_option linter.unusedVariables false
set_option linter.unusedSimpArgs false
open Go.Wk.Ep renaming fz → F1, own → FU
open Int renaming toNat → FV
open Go.IntKind renaming wrap → FW
open Go.Wk.Ow renaming nil → FZ
open Go.Wk.Sl renaming srcP → FY
open Sum renaming inr → FX
namespace Go.Proofs.YtldlmopdhmaceaaGreatDoor
open Tryz
open Go Go.Wk Go.Proofs
set_option maxRecDepth 100000
set_option maxHeartbeats 1000000
section
variable {w:World}{J:Col}
theorem sF {p0:Sig}{b c}{p1:VC}(k:Rd Clause.rp J w 0 b c p1){r:Bool}(h:ko p0 p1=some r):Ret prog 107 [.agg #[vi p0.In,vi p0.Out],.slice b p1.length c] w (Pvb J w r):=by
 refine Jp3 J func107 R ntmps107 R λm=>Jj3<|Jx3 J 2 R λ_ j a _ _=>Tv<|Jb 1 R<|Jl3 1 R<|Js3 R U27 R R<|Jn 2 R<|Ob h λi h e=>Jk4 [4] 13 i a j 5 tv ?_ ?_
 exact Bk h (λf h=>Jn 2 R<|Je4 R<|Jn 2 R<|Oh h<|Jl4 tv R) (λf h=>Jn 1 R<|Jf R (d5 (first:=[]) (captured:=[.tmp 2]) R R R ⟨_,R⟩)<|Ob h λ_ g h=>Jw3 R call170 (dH (J:=Mk a) (c1_0:=p0) Gct Fct g)<|Kb λ_ _ _=>Tv<|Jn 2 R<|Oh h<|Jv1 _ tv ⟨R,_,Fct⟩<|KM R)
 rintro _ _ _ ⟨rfl,d,_⟩
 exact have h:=e;Jb 1 R (Ju<|Jb2 (l:=[.tmp 4]) results107 (Jq2 R R) R<|Oh h<|⟨d,R,Fct⟩)
theorem eF {p0:Sig}{aD aY}{p1:VC}(ag:Rd Clause.rp J w 0 aD aY p1){r:Det×Bool}(h:db p0 p1=some r):Ret prog 60 [.agg #[vi p0.In,vi p0.Out],.slice aD p1.length aY] w (λb5 a=>∃b aU aW aV aX,b5= .tuple #[.agg #[.slice aU r.1.Next.length aW,.slice aV r.1.Pairs.length aX],.bool r.2]/\Ent J w b a/\Oc (FU E6 2) 30 b a 2 aU aW r.1.Next/\Oc Pair.ep120 120 b a 3 aV aX r.1.Pairs):=by
 refine Jp3 J func60 R ntmps60 R λce=>Jj3<|Jx3 J 2 R λ_ _ a5 bb bF=>Tv<|Jy3 a5 3 R X60 R λ_ _ a9 aC _=>Tv<|Jb 1 R<|Jq<|Jj3 (have af:=bF.stp aC;Jg4 tv R (Jh4 (haE af.cells) I39 Z39 R) (Ob h λci b0 h=>Jw3 R call39 (ir (J:=Mk a9) (p0:=p0) b0)<|Kb λb6 al ab=>Tv<|Jn 2 R<|Ob h λb4 h bO=>Jk4 [1,2,4] 19 b4 al b6 5 tv ?_ ?_))
 exact Bk h (λbU h=>Jg4 tv R (Jh4 (haE (af.stp ab).cells) I39 Z39 R)<|Jn 1 R<|Ob h λ_ b1 h=>Jw3 R call107 (sF (J:=Mk al) (p0:=p0) Gct b1)<|Kb λ_ _ _=>Tv<|Jn 2 R<|Oh h<|Jv1 _ tv ⟨R,_,Fct⟩<|KM R) (λbU h=>Je4 R<|Jn 1 R<|Je4 R<|Jn 2 R<|Oh h<|Jl4 tv R)
 rintro _ _ _ ⟨rfl,Y,aw⟩
 refine have h:=bO;Jd ?_
 refine Bk h (λbX h=>Jy R<|Js<|Jp<|Jj3 (have aI:=af.stp (ab.tr aw);Jg4 tv R (Jh4 (haE aI.cells) I39 Z39 R) (Ob h λ_ b2 h=>Jw3 R call80 (gf (J:=Mk Y) (p0:=p0) b2)<|Ki λ_ a6 ax=>Tv<|Ob h λX b3 h=>Jl1 (J:=a6) (E:=E6) (z:=(0:Int)) 8 R R R R R R R Y30 bS R R R R R (λ_ _ _=>R) (Jv2 b3) λbe bh _ a7 ay bG=>Tv<|Jb4 a7 (FU E6 2) 9 [8] (parts:=[(0,.tmp 23)]) (cells:=[.slice be X.length bh]) (xs:=([X]:VV)) R Y51 bY R (Jj4 ⟨_,_,R,bG⟩) λaF aE _ a8 az _=>Tv<|Jf R (Jn4 [.slice aF ([X]:VV).length aE,.slice none 0 0] R)<|Jy3 a8 10 R X60 R λaG _ D aA bH=>Tv<|Jm4 D 10 R Z60 R bH R λaZ aB bI=>Tv<|Jd<|Jq<|Jl3 1 R<|Js3 R U27 R R<|Jb 1 R<|Ob h λaT bR aL=>Jt3 [4,6] (λk s a=>∃b,∃p:VV×VP,∃S H O K,s=k/\Stp [10,12,13,14,17,19,20,21] D aZ b a/\Oc (FU E6 2) 30 b a 9 S H p.1/\Oc Pair.ep120 120 b a 11 O K p.2/\Bc b a 10 aG 60 [.slice S p.1.length H,.slice O p.2.length K]/\aT=FX p) (Jv<|Ju3 [2,4,6,26,27] (λC k s a=>∃b i,∃c:VV×VP,∃I L P T,s=(28,vi i)::k/\Stp [10,12,13,14,17,19,20,21] D aZ b a/\Oc (FU E6 2) 30 b a 9 I L c.1/\Oc Pair.ep120 120 b a 11 P T c.2/\Bc b a 10 aG 60 [.slice I c.1.length L,.slice P c.2.length T]/\0<=i/\FV ((p1.length:Int)-i)=C/\cntM (fQ p0 p1) C i c=some aT) ⟨_,_,⟨D,0,((([X]:VV):VV),([]:VP)),aF,aE,none,0,R,Jo3,Fct,FZ,bI,(by decide),(by simp),bR⟩,(KM R)⟩ ?_) ?_))) (λbX h=>Jx R<|Jj3<|Jf R (Jn4 [.slice none 0 0,.slice none 0 0] R)<|Jm4 Y 3 R Z60 R Fct R λ_ _ bE=>Tv<|Jb 1 R<|Ju<|Jw<|Jb2 (l:=[.cell 4 60,.tmp 5]) results60 (cc R bE I60 Z60 R<|Jq2 R R) R<|Oh h<|⟨Y,none,0,none,0,R,Fct,FZ,FZ⟩)
 rintro C _ _ ⟨ap,i,c,I,L,P,T,rfl,ae,bK,V,aJ,bP,aK,h⟩
 rcases C with _|C
 exact Jf3 R<|Jq<|Jx2 R (dcf aK)<|Jc1<|Jt<|Jt<|Jb1<|Oh h<|Jw1 _ ⟨ap,(c.1,c.2),I,L,P,T,R,Fct,bK,V,aJ,R⟩<|KM R
 refine Ob h λcf h o=>have W:=dct aK;Jf3 R (Jq<|Jw2 R W<|Js<|Jp<|Jq<|Jv<|Jj3<|Ob h λa0 aM h=>Jd3 R ag aM U27 Z32 ?_)
 obtain⟨_,bT,bQ⟩:=((ag.stp (T10 bb aC ab aw ax ay az aA aB ae))).gSt aM
 obtain⟨b8,cg,b9,ch,rfl,cb,cd⟩:=Clause.un bT
 refine Jg4 tv R (Jh4 (haE bQ) I32 Z32 R)<|Jy3 ap 12 R X32 R λ_ _ q m bL=>Tv<|Jm4 q 12 R Z32 R bL R λb7 n bM=>Tv<|Jd<|Jq<|Ob h λai aN h=>Ob h λj ah h=>Jt3 [2,4,6,26,27,28] (λk s a=>∃b f Q N M U,s=(9,.pointer (some ⟨f,0,none⟩))::(10,.bool j.2)::k/\Stp [13,17,19,20,21] q b7 b a/\Oc (FU E6 2) 30 b a 13 Q N j.1.Next/\Oc Pair.ep120 120 b a 14 M U j.1.Pairs/\Bc b a 15 f 60 [.slice Q j.1.Next.length N,.slice M j.1.Pairs.length U]) (WC.rxt (J:=q) [2,10,12] none (by kernel_rfl) λ_ d=>Jq1 (fuel:=8) [(0,0),(1,0),(2,0)] (by kernel_rfl) (by kernel_rfl) R<|Jg R (Jh4 (haC (aJ.stp<|T3 m n d).cells R) I60 Z60 R)<|Jg R (Jh4 (haC (aI.stp<|T9 ax ay az aA aB ae m n d).cells R) I39 Z39 R)<|Jg R (Jh4 (haC (bM.stp d).cells R) I32 Z32 R)<|Jp1<|WA.fork2 (fuel:=7) 3 8 (by kernel_rfl) R (Jw3 R call109 (ov (J:=Mk q) (p0:=p0) (p1:=a0) Gct Gct aN) ?_)<|Jy3 q 13 R X60 R λf _ a3 u bw=>⟨(u.cl R),Xs 0 [10,13,17,20,23,28,32]<|Jw3 R call109 (ov (J:=Mk a3) (p0:=p0) (p1:=a0) Gct Gct aN) ?_⟩) ?_
 rintro _ _ ⟨_,bi,bg,bd,bf,rfl,bj,bo,bp⟩
 refine Im bj 13 R (λaj g aO=>⟨(g.cl R),have ca:=bo.mx (cF (bW _) _) aO R (R:13+2=15);have aH:=bp.mx Pair.no120 aO R (R:13+3=16);Jp1 (WA.fork2 (fuel:=6) 4 8 (by kernel_rfl) R (Jw3 R call108 (la (J:=Mk aj) (p0:=(⟨c.1,c.2⟩:Det)) (p1:=ai) Gct (Jn3 (V.stp ((T4 m n d g))).rdc) Gct (Jn3 aH.rdc) ah) ?_)<|Jy3 aj 17 R X60 R λf _ a2 t bt=>⟨((g.tr t).cl R),Xs 0 [13,17,20,23,28,32]<|Jw3 R call108 (la (J:=Mk a2) (p0:=(⟨c.1,c.2⟩:Det)) (p1:=ai) Gct (Jn3 (V.stp (((T4 m n d g)).tr t)).rdc) Gct (Jn3 (aH.stp t).rdc) ah) ?_⟩)⟩)
 rintro _ _ ⟨_,y,A,x,B,rfl,bk,bq,br⟩
 exact Im bk 17 R (λa1 au aP=>have Z:=(g.tr au);⟨(Z.cl R),Xs 0 [17,20,23,25,28,32]<|Jn 3 R<|Jy3 a1 21 R X60 R λf _ ak aa bs=>⟨((Z.tr aa).cl R),Jm4 ak 21 R Z60 R bs R λ_ av _=>⟨((T3 Z aa av).cl R),Jn 1 R<|Xe<|Jo<|Jw1 _ ⟨(λe=>ren [(19,13),(20,14),(21,15)]<|ak e),f,y,A,x,B,R,(Jz2 ((T5 d g au aa av).wk R) [(19,13),(20,14),(21,15)] R),(((bq.mx (cF (bW _) _) aP R (R:17+2=19)).stp Fct).map (ren [(19,13),(20,14),(21,15)]) R R),(((br.mx Pair.no120 aP R (R:17+3=20)).stp Fct).map (ren [(19,13),(20,14),(21,15)]) R R),Fct⟩<|KM R⟩⟩⟩)
 rintro _ _ ⟨_,y,A,x,B,rfl,bl,bu,bv⟩
 exact Im bl 18 R (λam ac aQ=>have aq:=(T3 g t ac);⟨(aq.cl R),Jn 3 R<|Jm4 am 17 R Z60 R (bt.stp ac) R λ_ F _=>⟨((aq.tr F).cl R),Jn 1 R<|Xe<|Jo<|Jw1 _ ⟨(λe=>ren [(20,13),(21,14),(17,15)]<|am e),f,y,A,x,B,R,(Jz2 ((T5 d g t ac F).wk R) [(20,13),(21,14),(17,15)] R),(((bu.mx (cF (bW _) _) aQ R (R:18+2=20)).stp F).map (ren [(20,13),(21,14),(17,15)]) R R),(((bv.mx Pair.no120 aQ R (R:18+3=21)).stp F).map (ren [(20,13),(21,14),(17,15)]) R R),Fct⟩<|KM R⟩⟩)
 rintro _ _ ⟨_,bi,bg,bd,bf,rfl,bm,bx,bz⟩
 refine Im bm 14 R (λa4 v aR=>⟨((u.tr v).cl R),Jw3 R call108 (la (J:=Mk a4) (p0:=(⟨c.1,c.2⟩:Det)) (p1:=ai) Gct (Jn3 (V.stp ((T5 m n d u v))).rdc) (Jn3 (bx.mx (cF (bW _) _) aR R (R:14+2=16)).rdc) (Jn3 (bz.mx Pair.no120 aR R (R:14+3=17)).rdc) ah) ?_⟩)
 rintro _ _ ⟨_,y,A,x,B,rfl,bn,bA,bB⟩
 exact Im bn 18 R (λan ad aS=>have ar:=(T3 u v ad);⟨(ar.cl R),Jn 3 R<|Jm4 an 13 R Z60 R (bw.stp<|v.tr ad) R λ_ G _=>⟨((ar.tr G).cl R),Jn 1 R<|Xe<|Jo<|Jw1 _ ⟨(λe=>ren [(20,13),(21,14),(13,15)]<|an e),f,y,A,x,B,R,(Jz2 ((T5 d u v ad G).wk R) [(20,13),(21,14),(13,15)] R),(((bA.mx (cF (bW _) _) aS R (R:18+2=20)).stp G).map (ren [(20,13),(21,14),(13,15)]) R R),(((bB.mx Pair.no120 aS R (R:18+3=21)).stp G).map (ren [(20,13),(21,14),(13,15)]) R R),Fct⟩<|KM R⟩⟩)
 rintro _ _ ⟨E,f,Q,N,M,U,rfl,bc,_,_,bN⟩
 refine Jp<|Jq<|Jf3 R ?_
 refine Bk h (λbV h=>Jy R<|Js<|Jp<|Jk3<|Jg4 tv R (Jh4 (haE bN.cells) I60 Z60 R)<|Jm4 E 10 R Z60 R Fct R λ_ ba _=>Tv<|Jo<|Jz<|Jp<|Jg3 R ?_) (λbV h=>Jx R<|Jj3<|Jf R (Jn4 [.slice none 0 0,.slice none 0 0] R)<|Jm4 E 3 R Z60 R Fct R λ_ _ bC=>Tv<|Jb 1 R<|Ju<|Jw<|Ja1<|Jw<|Jw<|Ou h o (λo=>Ov o aL (λh=>Ja1<|Jr2<|Jw<|Jb2 (l:=[.cell 4 60,.tmp 5]) results60 (cc R bC I60 Z60 R<|Jq2 R R) R<|Oh h<|⟨E,none,0,none,0,R,Fct,FZ,FZ⟩)))
 have bZ:FW .i64 (i+1)=i+1:=wr1 bP (Jn2 W) ag.len_le
 rw[bZ]
 exact have W:=Jn2 W;Ou h o (λo=>Ja2 ⟨(λe=>ren [(13,9),(14,11)]<|E e),i+1,(j.1.Next,j.1.Pairs),Q,N,M,U,R,(Jz2 ((T5 ae m n bc ba).wk R) [(13,9),(14,11)] R),Fct,Fct,Fct,by omega,by omega,o⟩ R)
 rintro _ _ ⟨ao,p,S,H,O,K,rfl,_,_,_,bJ,rfl⟩
 exact have h:=yI aL;Jp (Jj3<|Jg4 tv R (Jh4 (haE bJ.cells) I60 Z60 R)<|Jm4 ao 3 R Z60 R Fct R λ_ _ bD=>Tv<|Jb 1 R<|Ju<|Jb2 (l:=[.cell 4 60,.tmp 5]) results60 (cc R bD I60 Z60 R<|Jq2 R R) R<|Oh h<|⟨(λe=>ren [(9,2),(11,3)]<|ao e),S,H,O,K,R,Fct,Fct,Fct⟩)
theorem mu {K I G H}{p0:Arena}{F Y}{p1:VP}{p2:Int}(aX:Rd Ri J w 0 K I p0.Owner) (aY:Rd Rs J w 0 G H p0.Next) (aL:Rd Pair.rp J w 0 F Y p1){r:Parity×VL×Bool}(h:ed p0 p1 p2=some r):Ret prog 115 [.agg #[.slice K p0.Owner.length I,.slice G p0.Next.length H],.slice F p1.length Y,vi p2] w (λaS a=>∃b P U Q V S W T X,aS= .tuple #[.agg #[.slice P r.1.Arena.Owner.length U,.slice Q r.1.Arena.Next.length V,.slice S r.1.Prio.length W],.slice T r.2.1.length X,.bool r.2.2]/\Ent J w b a/\Oc E6 2 b a 2 P U r.1.Arena.Owner/\Oc (F1 Rs) 30 b a 3 Q V r.1.Arena.Next/\Oc E6 2 b a 4 S W r.1.Prio/\Oc (F1 Place.rp) 149 b a 5 T X r.2.1):=by
 refine Jp3 J func115 R ntmps115 R λaZ=>Jj3<|Jx3 J 2 R λ_ _ ad _ aD=>Tv<|Jx3 ad 3 R λ_ _ ai al aJ=>Tv<|Jy3 ai 4 R X55 R λ_ _ ac C _=>Tv<|Jb 2 R<|Jl3 1 R<|Jf R (Jn4 [vi p2,.slice none 0 0] R)<|Jy3 ac 5 R zeroValue149 R λL _ g D ax=>Tv<|Jm4 g 5 R Z149 R ax R λZ E ay=>Tv<|Jd<|Jq<|Jj3<|Jc3 R I58 ((aJ.stp<|T3 C D E).ld 0 R R)<|Js3 R U58 R R<|Jb 1 R<|Ob h λO aO aM=>Jt3 [3,4,6,9] (λo p a=>∃b,∃f:VI,∃u q,p=o/\Stp [5,6] g Z b a/\Oc E6 2 b a 6 u q f/\Bc b a 5 L 149 [vi p2,.slice u f.length q]/\O=FX f) (Jv<|Ju3 [3,4,6,9,14] (λd o p a=>∃b c,∃e:VI,∃j k,p=(15,vi c)::o/\Stp [5,6] g Z b a/\Oc E6 2 b a 6 j k e/\Bc b a 5 L 149 [vi p2,.slice j e.length k]/\0<=c/\FV ((p1.length:Int)-c)=d/\cntM ms d c e=some O) ⟨_,_,⟨g,0,([]:VI),none,0,R,Jo3,FZ,ay,(by decide),(by simp),aO⟩,(KM R)⟩ ?_) ?_
 rintro d _ _ ⟨z,c,e,j,k,rfl,_,aB,M,aN,N,h⟩
 rcases d with _|d
 exact Jf3 R<|Jq<|Jx2 R (dcf N)<|Jc1<|Jt<|Jt<|Jb1<|Oh h<|Jw1 _ ⟨z,e,j,k,R,Fct,aB,M,R⟩<|KM R
 refine Ob h λa0 h x=>have m:=dct N;Jf3 R (Jq<|Jw2 R m<|Js<|Jp<|Jq<|Jv<|Jf3 R<|Jk3<|Je3 R U149 R Z30<|Jc3 R I30 (M.ld 1 R R)<|Jn 1 R<|Ji4 z 7 [c] R Y30 bS R λaW aV _ af _ aC=>Tv<|Ob h λy aQ h=>Jd4 af E6 6 [] R Y30 bS R Fct (FY (cd _) aC.rdc) bU aQ R λs t _ A _ _=>Tv<|Je3 R U149 R Z30<|Jz3 A 5 (off:=1) (vc:=[.slice s y.length t]) (cs':=[vi p2,.slice s y.length t]) R Z30 R Fct R λ_ _ aE=>Tv<|Jo<|Jz<|Jp<|Jg3 R ?_)
 have aP:FW .i64 (c+1)=c+1:=wr1 aN (Jn2 m) aL.len_le
 rw[aP]
 exact have m:=Jn2 m;Ou h x (λx=>Ja2 ⟨A,c+1,y,s,t,R,Fct,Fct,aE,by omega,by omega,x⟩ R)
 rintro _ aa ⟨ae,f,u,q,rfl,aj,az,aA,rfl⟩
 refine have h:=yI aM;Jp (Jj3<|Jg4 tv R (Jh4 (haE (aD.stp<|T5 al C D E aj).cells) I53 Z53 R)<|Jg4 tv R (Jh4 (haE aA.cells) I149 Z149 R)<|Jf R (d5 (first:=[]) (captured:=[.tmp 4]) R R R ⟨_,R⟩)<|Jf R (d5 (first:=[]) (captured:=[.tmp 4]) R R R ⟨_,R⟩) ?_)
 obtain⟨ag,_,aT⟩:=eD ae aa 6
 obtain⟨ah,ak,aU⟩:=eD ag aa 3
 refine Ob h λ_ aR h=>Jw3 R call179 (eT (J:=λv=>mp [] 1<|ah v) (p0:=p0) (p1:=(⟨p2,f⟩:Place)) (Jm2 Fct (mp [] 1) R R) (Jm2 Fct (mp [] 1) R R) (Jm2 ((Sl.st aT az.rdc).stp ak) (mp [] 1) R R) (Jm2 Fct (mp [] 1) R R) ((Bc.fzz aU Fct).map (mp [] 1) R R) aR) ?_
 rintro _ _ ⟨_,au,av,aq,an,ar,am,ao,ap,rfl,aw,aF,aG,aH,aI⟩
 exact Im0 aw 7 R (λB _ n ab=>Tv<|Jn 3 R<|Jm4 B 4 R Z55 R Fct R λ_ i aK=>Tv<|Jb 2 R<|Ju<|Jb2 (l:=[.cell 6 55,.tmp 7,.tmp 8]) results115 (cc R aK I55 Z55 R<|Jq2 R<|Jq2 R R) R<|Oh h<|⟨(λv=>ren [(9,2),(10,3),(11,4),(12,5)]<|B v),au,av,aq,an,ar,am,ao,ap,R,Fct,(((aF.mx (bW _) n R (R:7+2=9)).stp i).map (ren [(9,2),(10,3),(11,4),(12,5)]) R R),(((aG.mxz ab n R (R:7+3=10)).stp i).map (ren [(9,2),(10,3),(11,4),(12,5)]) R R),(((aH.mx (bW _) n R (R:7+4=11)).stp i).map (ren [(9,2),(10,3),(11,4),(12,5)]) R R),(((aI.mxz ab n R (R:7+5=12)).stp i).map (ren [(9,2),(10,3),(11,4),(12,5)]) R R)⟩)
theorem rz {n q o p}{p0:Arena}{m u}{p1:VP}{p2:Int}(an:Rd Ri J w 0 n q p0.Owner) (ao:Rd Rs J w 0 o p p0.Next) (ap:Rd Pair.rp J w 0 m u p1){r:Int}(h:ml p0 p1 p2=some r):Ret prog 224 [.agg #[.slice n p0.Owner.length q,.slice o p0.Next.length p],.slice m p1.length u,vi p2] w (Pvi J w r):=by
 refine Jp3 J func224 R ntmps224 R λaq=>Jj3<|Jx3 J 2 R λ_ _ v _ a=>Tv<|Jb 1 R<|Jq<|Jj3<|Jg4 tv R (Jh4 (haE a.cells) I53 Z53 R)<|Ob h λar Q h=>Jw3 R call127 (qq (J:=Mk v) (p0:=p0) Gct Gct Q)<|Kb λaa g c=>Tv<|Jn 2 R<|Ob h λX h K=>Jk4 [1,2,3] 19 X g aa 6 tv ?_ ?_
 exact Bk h (λM h=>Jn 1 R<|Jg4 tv R (Jh4 (haE (a.stp c).cells) I53 Z53 R)<|Ob h λ_ S h=>Jw3 R call209 (rH (J:=Mk g) (p0:=p0) Gct Gct S)<|Ki λ_ x _=>Tv<|Ob h λ_ T h=>Jw3 R call174 (pK (J:=Mk x) Gct T)<|Kb λ_ _ _=>Tv<|Jn 2 R<|Oh h<|Jv1 _ tv ⟨R,_,Fct⟩<|KM R) (λM h=>Jn 1 R<|Je4 R<|Je4 R<|Je4 R<|Jn 2 R<|Oh h<|Jl4 tv R)
 rintro _ Z _ ⟨rfl,i,k⟩
 refine Jn 1 R<|Ob K λY h L=>Jk4 [1,2,3] 25 Y i Z 5 tv ?_ ?_
 exact Bk h (λN h=>Jg4 tv R (Jh4 (haE (a.stp<|c.tr k).cells) I53 Z53 R)<|Jn 1 R<|Ob h λ_ U h=>Jw3 R call199 (tJ (J:=Mk i) (p0:=p0) Gct Gct U)<|Kb λ_ _ _=>Tv<|Jn 2 R<|Oh h<|Jv1 _ tv ⟨R,_,Fct⟩<|KM R) (λN h=>Je4 R<|Jn 1 R<|Je4 R<|Jn 2 R<|Oh h<|Jl4 tv R)
 rintro _ _ _ ⟨rfl,j,A⟩
 refine have h:=L;Jd ?_
 refine Bk h (λO h=>Jy R<|Js<|Jp<|Jj3<|Jg4 tv R (Jh4 (haE (a.stp ((T3 c k A))).cells) I53 Z53 R)<|Jn 2 R<|Ob h λab V h=>Jw3 R call115 (mu (J:=λB=>mp [] 1<|j B) (p0:=p0) (Jm2 Fct (mp [] 1) R R) (Jm2 Fct (mp [] 1) R R) (Jm2 Fct (mp [] 1) R R) V) ?_) (λO h=>Jx R<|Jf3 R<|Ju<|Jw<|Jb2 (l:=[.tmp 6]) results224 (Jq2 R R) R<|Oh h<|⟨j,R,Fct⟩)
 rintro _ _ ⟨_,ai,ad,af,am,ae,aj,ak,ah,rfl,C,D,E,F,_⟩
 refine Im0 C 5 R (λy _ f ac=>Tv<|Jn 4 R<|Jy3 y 11 R X55 R λ_ _ b d G=>Tv<|Jm4 b 11 R Z55 R G R λ_ e H=>Tv<|Jb 2 R<|Jq<|Jf3 R ?_)
 exact Bk h (λP h=>Jy R<|Js<|Jp<|Jj3<|Jg4 tv R (Jh4 (haE H.cells) I55 Z55 R)<|Ob h λ_ W h=>Jw3 R call84 (kD (J:=Mk b) (p0:=ab.1) (Jn3 ((D.mx (bW _) f R (R:5+2=7)).stp (d.tr e)).rdc) (Jn3 ((E.mxz ac f R (R:5+3=8)).stp (d.tr e)).rdc) (Jn3 ((F.mx (bW _) f R (R:5+4=9)).stp (d.tr e)).rdc) W) (Ks 14 (bW _) λag al _ z _ I=>Tv<|have s:=I;Ob h λ_ t h=>Jd3 R s.rdc t U30 Z2<|Jc3 R I2 (s.rdc.gInt t)<|Jb 1 R<|Ju<|Jb2 (l:=[.tmp 6]) results224 (Jq2 R R) R<|Oh h<|⟨z,R,Fct⟩)) (λP h=>Jx R<|Jf3 R<|Ju<|Jw<|Jb2 (l:=[.tmp 6]) results224 (Jq2 R R) R<|Oh h<|⟨b,R,Fct⟩)
theorem sf {m q p n k o}{p0:Parity}(af:Rd Ri J w 0 m q p0.Arena.Owner) (ag:Rd Rs J w 0 p n p0.Arena.Next) (ah:Rd Ri J w 0 k o p0.Prio){r:Answer}(h:mH p0=some r):Ret prog 116 [.agg #[.slice m p0.Arena.Owner.length q,.slice p p0.Arena.Next.length n,.slice k p0.Prio.length o]] w (λaa f=>∃g u x v y,aa= .agg #[.slice u r.Won.length x,.slice v r.Plan.length y]/\Ent J w g f/\Oc E6 2 g f 2 u x r.Won/\Oc E6 2 g f 3 v y r.Plan):=by
 refine Jp3 J func116 R ntmps116 R λai=>Jj3<|Jx3 J 2 R λ_ _ z _ P=>Tv<|Jy3 z 3 R zeroValue146 R λ_ _ C F _=>Tv<|Jd<|Jq<|Jj3 (have s:=P.stp F;Jg4 tv R (Jh4 (haE s.cells) I55 Z55 R) (Ob h λaj Z h=>Jw3 R call70 (pJ (J:=Mk C) (p0:=p0) Gct Gct Gct Z)<|Kb λ_ a D=>Tv<|Jb 1 R ?_))
 refine Bk h (λV h=>Jy R<|Js<|Jp<|Jq<|Xn a [2] [5,0,6,12,10,16,19,22] λ_ E=>Je3 R U55 R Z53 (have e:=s.stp (D.tr E);Jg R (Jh4 (haC e.cells R) I55 Z55 R) (Jg R (Jh4 (haC (e.lds 0 2 R) R) I53 Z53 R)<|Jg R (Jh4 (haC e.cells R) I55 Z55 R)<|Ob h λ_ W h=>Jw3 R call185 (xJ (J:=Mk a) (p0:=p0.Arena) Gct Gct W)<|Ks 8 (bW _) λab ac _ A b O=>⟨(b.cl R),Ob h λ_ X h=>Jw3 R call84 (kD (J:=Mk A) (p0:=p0) Gct Gct Gct X)<|Ks 11 (bW _) λae ad _ B c Q=>⟨((b.tr c).cl R),Ob h λ_ Y h=>Jw3 R call184 (uP (J:=Mk B) (p0:=p0) Gct Gct Gct (Jn3 (O.stp c).rdc) (Jn3 Q.rdc) Y) ?_⟩⟩))) (λV h=>Jx R<|Jj3<|Jf R (Jn4 [.slice none 0 0,.slice none 0 0] R)<|Jm4 a 3 R Z146 R Fct R λ_ _ N=>Tv<|Jd<|Ju<|Jw<|Jb2 (l:=[.cell 2 146]) results116 (cc R N isAgg146 Z146 R R) R<|Oh h<|⟨a,none,0,none,0,R,Fct,FZ,FZ⟩)
 rintro _ _ ⟨_,G,I,K,H,rfl,M,S,T⟩
 exact Im M 12 R (λi j t=>⟨((T3 b c j).cl R),Jm4 i 3 R Z146 R Fct R λ_ d U=>⟨((T4 b c j d).cl R),Jt1<|Jd<|Ju<|Jb2 (l:=[.cell 2 146]) results116 (cc R U isAgg146 Z146 R R) R<|Oh h<|⟨(λL=>ren [(14,2),(15,3)]<|i L),G,I,K,H,R,Fct,(((S.mx (bW _) t R (R:12+2=14)).stp d).map (ren [(14,2),(15,3)]) R R),(((T.mx (bW _) t R (R:12+3=15)).stp d).map (ren [(14,2),(15,3)]) R R)⟩⟩⟩)
theorem tH {p0:Sig}{aS aP aR aT}{p1:Det}{aU aY aW aV aQ aX}{p2:Parity}{aN bv}{K:VL}(bb:Rd Rs J w 0 aS aP p1.Next) (dw:Rd Pair.rp J w 0 aR aT p1.Pairs) (dx:Rd Ri J w 0 aU aY p2.Arena.Owner) (cB:Rd Rs J w 0 aW aV p2.Arena.Next) (dy:Rd Ri J w 0 aQ aX p2.Prio) (bc:Rd Place.rp J w 0 aN bv K){r:Rival}(h:lK p0 p1 p2 K=some r):Ret prog 131 [.agg #[vi p0.In,vi p0.Out],.agg #[.slice aS p1.Next.length aP,.slice aR p1.Pairs.length aT],.agg #[.slice aU p2.Arena.Owner.length aY,.slice aW p2.Arena.Next.length aV,.slice aQ p2.Prio.length aX],.slice aN K.length bv] w (λc5 a=>∃b br bt bs bu,c5= .agg #[.slice br r.In.length bt,.slice bs r.Next.length bu]/\Ent J w b a/\Oc E6 2 b a 2 br bt r.In/\Oc (FU E6 2) 30 b a 3 bs bu r.Next):=by
 refine Jp3 J func131 R ntmps131 R λdz=>Jj3<|Jx3 J 2 R λ_ _ bN aq ct=>Tv<|Jx3 bN 3 R λ_ _ bT Q cz=>Tv<|Jx3 bT 4 R λ_ _ bB C ce=>Tv<|Jx3 bB 5 R λ_ _ bF y ch=>Tv<|Jy3 bF 6 R X103 R λ_ _ bI s _=>Tv<|Jd<|Jj3 (have a3:=ce.stp (y.tr s);Jg4 tv R (Jh4 (haE a3.cells) I55 Z55 R) (Ob h λda cZ h=>have a4:=cB.stp (T5 aq Q C y s);Jw3 R call116 (sf (J:=Mk bI) (p0:=p2) Gct Gct Gct cZ) ?_))
 rintro _ _ ⟨_,de,dm,di,dp,rfl,b9,_,cs⟩
 refine Im b9 7 R (λbQ t c4=>Tv<|have a5:=cs.mx (bW _) c4 R (R:7+3=10);Jf R (rS U146 R I30 R R R) (Jb 1 R<|Jj3<|Je3 R U60 R Z51 (have a6:=cz.stp (T4 C y s t);Jc3 R I51 (a6.ld 0 R R) (Js3 R U51 R R<|Jb 1 R<|Jj3<|Ji4 bQ 11 [0] R Y30 bS R λb4 b8 _ bR j _=>Tv<|Jb 1 R<|Jj3<|Jf R (Jn4 [.slice none 0 0,.slice none 0 0] R)<|Jy3 bR 12 R X103 R λa0 _ M k cu=>Tv<|Jm4 M 12 R Z103 R cu R λbw m cv=>Tv<|Jd<|Jq<|Jf3 R<|Ob h λbp cM cD=>Jt3 [8,12] (λd e a=>∃b,∃x:VI×Int×VI×VV,∃aZ aO ab V T ac,e=d/\Stp [11,12,13,14,17,18,19,20] M bw b a/\Oc E6 2 b a 11 aZ aO x.1/\Oc E6 2 b a 13 ab V x.2.2.1/\Oc (FU E6 2) 30 b a 14 T ac x.2.2.2/\Bc b a 12 a0 103 [.slice ab x.2.2.1.length V,.slice T x.2.2.2.length ac]/\bp=FX x) (Jv<|Ju3 [4,5,6,7,8,9,10,12] (λg d e a=>∃b,∃c:VI×Int×VI×VV,∃D E ad af H G,e=(11,.slice D c.1.length E)::(13,vi c.2.1)::d/\Stp [11,12,13,14,17,18,19,20] M bw b a/\Oc E6 2 b a 11 D E c.1/\Oc E6 2 b a 13 ad af c.2.2.1/\Oc (FU E6 2) 30 b a 14 H G c.2.2.2/\Bc b a 12 a0 103 [.slice ad c.2.2.1.length af,.slice H c.2.2.2.length G]/\ci (fZ p0 p1 p2 K da) g c=some bp) ⟨_,_,⟨M,((([0]:VI):VI),(0:Int),([]:VI),([]:VV)),b4,b8,none,0,none,0,R,Jo3,Fct,FZ,FZ,cv,cM⟩,(KM R)⟩ ?_) ?_))))
 rintro g _ _ ⟨N,c,D,E,ad,af,H,G,rfl,n,ax,cx,cy,a7,h⟩
 rcases g with _|g
 cases h
 refine Ob h λ_ h be=>Jq<|Jl3 2 R<|Js3 R U30 R R<|Jb 1 R ?_
 refine Bk h (λcS h=>Jy R<|Jc1<|Jt<|Jt ?_) (λcS h=>Jx R<|Js<|Jp<|Jq<|Jv<|Jq<|Xn N [0,5,11] [5,8,11,0,12,17,20,21,26] λ_ f=>Jn 2 R<|Ob h λ_ bf h=>Jd3 R ax.rdc bf U30 Z2 (have a8:=ch.stp (T7 s t j k m n f);Jg R (Jd2 isAgg126 R R<|hvC (a8.ld 0 R R) R) (have ay:=ax.stp f;Jg R (Jd2 I2 R R<|hvC (ay.rdc.gInt bf) R) (Ob h λdb bg h=>Jd3 R bc bg U126 Z149<|Je3 R U149 R Z2 ?_))))
 cases h
 exact have h:=be;Jb1 (Oh h<|Jw1 _ ⟨N,(c.1,c.2.1,c.2.2.1,c.2.2.2),D,E,ad,af,H,G,R,Fct,ax,cx,cy,a7,R⟩<|KM R)
 have az:=bc.stp (T11 aq Q C y s t j k m n f)
 obtain⟨_,cP,cK⟩:=(az).gSt bg
 obtain⟨dj,dB,rfl,du⟩:=Place.un cP
 refine Jg R (Jd2 I2 R R<|hvC (λa aB=>cK a aB 0 _ R) R)<|Jn 1 R<|Jt1<|Jd<|Jl3 3 R<|Ob h λ_ bh h=>Jd3 R ay.rdc bh U30 Z2<|Jc3 R I2 (ay.rdc.gInt bh)<|Ob h λdc bi h=>Jd3 R a5.rdc bi U30 Z2<|Jc3 R I2 ((a5.stp<|T5 j k m n f).rdc.gInt bi)<|Jb 1 R<|Jq<|Xn N [0,2,5] [5,17,0,8,11,12,20,21,25,29,32] λ_ o=>Jn 2 R<|Jg R (Jd2 isAgg126 R R<|hvC ((a8.stp o).ld 0 R R) R)<|Ob h λbz bj h=>Jd3 R az bj U126 Z149<|Je3 R U149 R Z2 ?_
 obtain⟨_,cQ,cL⟩:=((az.stp o)).gSt bj
 obtain⟨dk,dC,rfl,dv⟩:=Place.un cQ
 refine Jg R (Jd2 I2 R R<|hvC (λa aB=>cL a aB 0 _ R) R)<|Jn 1 R (have a9:=ct.stp (T11 Q C y s t j k m n f o);Jg R (Jh4 (haC a9.cells R) I39 Z39 R) (Ob h λbA c0 h=>Jw3 R C73 (dr (J:=Mk N) (p0:=p0) c0)<|Ki λ_ bV u=>⟨(u.cl R),Ob h λ_z61 c2 h=>Jf R (rT R R R<|DM c2)<|Jn 1 R<|Jt1<|Jd<|Jj3<|Jc4 bV E6 17 R Y30 bS R λb7 b5 bx an z cA=>Tv<|Jb 1 R<|Jq<|Jj3<|Je3 R U39 R Z2 (have ba:=a9.stp (u.tr z);Jc3 R I2 (ba.ld 1 R R) (Ob h λ_z65 c3 h=>Jf R (rU R R R<|vy c3)<|Jb 1 R (Ob h λ_ cO h=>have cF:=gk cO;Ob h λbq cN cE=>Jt3 [4,5,6,7,8,9,10,12,13,16] (λd e a=>∃b,∃i:VI×VI,∃Z aa ah S,e=(11,.slice Z i.1.length aa)::(17,.slice ah i.2.length S)::d/\Stp [11,17,18,20] an bx b a/\Oc E6 2 b a 11 Z aa i.1/\Oc E6 2 b a 17 ah S i.2/\bq=FX i) (Jv<|Ju3 [4,5,6,7,8,9,10,12,13,14,15,16,65] (λg d e a=>∃b q,∃p:VI×VI,∃I F ae ag,e=(11,.slice I p.1.length F)::(17,.slice ae p.2.length ag)::(66,vi q)::d/\Stp [11,17,18,20] an bx b a/\Oc E6 2 b a 11 I F p.1/\Oc E6 2 b a 17 ae ag p.2/\0<=q/\FV ((FW .i64 (1 * 2 ^ (min (FV p0.Out)<|IntKind.bits IntKind.i64)))-q)=g/\cntM (ga p0 p1 p2 K db dc bz bA) g q p=some bq) ⟨_,_,⟨an,0,(c.1,([]:VI)),D,E,b7,b5,R,Jo3,Fct,cA,(by decide),(by simp),cN⟩,(KM R)⟩ ?_) ?_)))⟩))
 rintro g _ c6 ⟨A,q,p,I,F,ae,ag,rfl,B,ca,cb,cG,bd,h⟩
 rcases g with _|g
 exact Jf3 R<|Jq<|Jx2 R (dcf bd)<|Jc1<|Jt<|Jt<|Jb1<|Oh h<|Jw1 _ ⟨A,(p.1,p.2),I,F,ae,ag,R,Fct,ca,cb,R⟩<|KM R
 refine Ob h λdA h aA=>have aj:=dct bd;Jf3 R (Jq<|Jw2 R aj<|Js<|Jp<|Jq<|Jv<|Jf3 R<|Jq<|Ob h λ_ bk h=>Ob h λ_ bl h=>Ob h λaD ak h=>Jt3 [4,5,6,7,8,9,10,11,12,13,14,15,16,17,65,66] (λd e a=>∃b v,e=(19,.pointer (some ⟨v,0,none⟩))::d/\Stp [18,20] A c6 b a/\Bc b a 18 v 2 [vi aD]) (WC.rxt (J:=A) [0,2,3] none (by kernel_rfl) λ_ O=>Jq1 (fuel:=7) [(0,2),(2,2),(5,2),(9,2),(1,0),(3,2),(4,0),(6,0)] (by kernel_rfl) (by kernel_rfl) R<|Je3 R U60 R Z51<|Jn 3 R<|Jg R (Jd2 I51 R R<|hvC ((a6.stp<|T10 j k m n f o u z B O).ld 0 R R) R)<|Jd3 R bb bk U51 Z30 ?_) ?_)
 obtain⟨_,_,ai,cH⟩:=(bb.stp (T16 aq Q C y s t j k m n f o u z B O)).gSl bk
 exact Jg R (Jd2 I30 R R<|hvC cH R)<|Jg R (Jh4 (haC (ba.stp<|B.tr O).cells R) I39 Z39 R)<|Jp1<|WA.fork2 (fuel:=6) 7 13 (by kernel_rfl) R (Jw3 R C73 (dr (J:=Mk A) (p0:=p0) bl)<|Ki λ_ bD P=>⟨(P.cl R),Xs 0 [26,32,35,36,40,43]<|Jn 2 R<|Jd3 R ai ak U30 Z2<|Jg R (Jd2 I2 R R<|hvC (ai.gInt ak) R)<|Jy3 bD 20 R X2 R λv _ aE ao cf=>⟨((P.tr ao).cl R),Ja4 aE 20 (vc:=[vi aD]) R Z2 R cf R λ_ aK _=>⟨((T3 P ao aK).cl R),Xe<|Jo<|Jw1 _ ⟨(λav=>ren [(20,18)]<|aE av),v,R,(Jz2 ((T4 O P ao aK).wk R) [(20,18)] R),Fct⟩<|KM R⟩⟩⟩)<|Jy3 A 18 R X2 R λv _ bE ap _=>⟨(ap.cl R),Xs 0 [22,26,32,35,36,43]<|Jw3 R C73 (dr (J:=Mk bE) (p0:=p0) bl)<|Ki λ_ aF aL=>⟨((ap.tr aL).cl R),Jn 2 R<|Jd3 R ai ak U30 Z2<|Jg R (Jd2 I2 R R<|hvC (ai.gInt ak) R)<|Ja4 aF 18 (vc:=[vi aD]) R Z2 R Fct R λ_ bZ cg=>⟨((T3 ap aL bZ).cl R),Xe<|Jo<|Jw1 _ ⟨aF,v,R,Fct,cg⟩<|KM R⟩⟩⟩
 rintro _ _ ⟨bC,v,rfl,aJ,_⟩
 refine Jp<|Jj3<|Je3 R U55 R Z53<|Je3 R U53 R Z51 (have a1:=a3.stp (T11 t j k m n f o u z B aJ);Jc3 R I51 (a1.ld 1 R R) (Jn 1 R<|Ob h λ_ bm h=>Jd3 R a4 bm U51 Z30 ?_))
 have aw:=a4.stp (T11 t j k m n f o u z B aJ)
 obtain⟨_,_,_,cI⟩:=aw.gSl bm
 refine Jc3 R I30 cI<|Jf R (d5 (first:=[]) (captured:=[.tmp 7,.tmp 19]) R R R ⟨_,R⟩)<|Ob h λ_ c1 h=>Jw3 R call117 (fj (J:=Mk bC) Gct Gct Fct Fct c1)<|Ki λ_ bG aM=>Tv<|Jb 1 R<|Jj3<|Je3 R U55 R Z53<|Je3 R U53 R Z51<|Jc3 R I51 ((a1.stp aM).ld 1 R R)<|Jn 1 R<|Ob h λ_ bn h=>Jd3 R aw bn U51 Z30 ?_
 obtain⟨_,_,a2,cJ⟩:=(aw.stp aM).gSl bn
 refine Jc3 R I30 cJ<|Jn 1 R<|Ob h λdd bo h=>Jd3 R a2 bo U30 Z2<|Jc3 R I2 (a2.gInt bo)<|Jb 1 R<|Jl3 2 R<|Ob h λdD cU h=>Jw3 R call112 (dM (J:=Mk bG) Gct cU)<|Ki λc7 am _=>Tv<|Jb 1 R<|Jq<|Jf3 R<|Ob h λL h cC=>Jt3 [4,5,6,7,8,9,10,12,13,14,15,16,17,65,66] (λd e a=>∃b U W,e=(11,.slice U L.1.length W)::(22,vi L.2)::d/\Stp [11] am c7 b a/\Oc E6 2 b a 11 U W L.1) ?_ ?_
 exact Bk h (λcR h=>Jy R<|Js<|Oh h<|Jw1 _ ⟨am,I,F,R,Jo3,Fct⟩<|KM R) (λcR h=>Jx R<|Jl3 1 R<|Js3 R U30 R R<|Jb 1 R<|Jm3 2 R<|Ji4 am 23 [dd] R Y30 bS R λdn dh _ bJ _ cj=>Tv<|Ob h λ_ cV h=>Jd4 bJ E6 11 [] R Y30 bS R Fct (FY (cd _) cj.rdc) bU cV R λb6 b2 _ bK _ ck=>Tv<|Jc 1 R<|Oh h<|Jw1 _ ⟨bK,b6,b2,R,Fct,ck⟩<|KM R)
 rintro _ _ ⟨bH,U,W,rfl,_,_⟩
 refine have h:=cC;Jp (Jm3 2 R<|Ji4 bH 23 [L.2] R Y30 bS R λdl dg _ bL _ cl=>Tv<|Ob h λc8 cW h=>Jd4 bL E6 17 [] R Y30 bS R Fct (FY (cd _) cl.rdc) bU cW R λb1 b3 _ bM _ cm=>Tv<|Jc 1 R<|Jz<|Jp<|Jg3 R ?_)
 have cT:FW .i64 (q+1)=q+1:=wr1 cG (Jn2 aj) cF
 rw[cT]
 exact have aj:=Jn2 aj;Ou h aA (λaA=>Ja2 ⟨bM,q+1,(L.1,c8),U,W,b1,b3,R,Fct,Fct,cm,by omega,by omega,aA⟩ R)
 rintro _ _ ⟨bX,i,Z,aa,ah,S,rfl,b0,_,_,rfl⟩
 refine have h:=yI cE;Jp (Jj3<|Je3 R U103 R Z30<|Jc3 R I30 ((a7.stp<|T5 f o u z b0).ld 0 R R)<|Jn 1 R<|Ji4 bX 18 [(Int.tmod (FW .i64<|bz.At-(p1.Next.length:Int)) bA)] R Y30 bS R λdt df _ bO _ cn=>Tv<|Ob h λal cX h=>Jd4 bO E6 13 [] R Y30 bS R Fct (FY (cd _) cn.rdc) bU cX R λX Y _ aG _ _=>Tv<|Je3 R U103 R Z30<|Jz3 aG 12 (off:=0) (vc:=[.slice X al.length Y]) (cs':=[.slice X al.length Y,.slice H c.2.2.2.length G]) R Z30 R Fct R λ_ _ co=>Tv<|Jd<|Jk3<|Je3 R U103 R Z51<|Jc3 R I51 (co.ld 1 R R)<|Jn 1 R<|Jb4 aG (FU E6 2) 19 [17] (parts:=[(0,.tmp 123)]) (cells:=[.slice ah i.2.length S]) (xs:=([i.2]:VV)) R Y51 bY R (Jj4 ⟨_,_,R,Fct⟩) λdq ds _ bP _ cp=>Tv<|Ob h λaC cY h=>Jd4 bP (FU E6 2) 14 [19] R Y51 bY R Fct cp.src (c9 R) cY R λau ar _ aH _ _=>Tv<|Je3 R U103 R Z51<|Jz3 aH 12 (off:=1) (vc:=[.slice au aC.length ar]) (cs':=[.slice X al.length Y,.slice au aC.length ar]) R Z51 R Fct R λ_ _ cq=>Tv<|Jo<|Jz<|Jp<|Jg3 R ?_)
 cases h
 exact Ja2 ⟨aH,(i.1,((FW .i64<|c.2.1+1):Int),al,aC),Z,aa,X,Y,au,ar,R,Fct,Fct,Fct,Fct,cq,be⟩ R
 rintro _ _ ⟨aI,x,aZ,aO,ab,V,T,ac,rfl,_,_,_,_,cw,rfl⟩
 exact have h:=yI cD;Jp (Jj3<|Jg4 tv R (Jh4 (haE cw.cells) isAgg103 Z103 R)<|Jm4 aI 6 R Z103 R Fct R λ_ _ cr=>Tv<|Jd<|Ju<|Jb2 (l:=[.cell 8 103]) results131 (cc R cr isAgg103 Z103 R R) R<|Oh h<|⟨(λav=>ren [(13,2),(14,3)]<|aI av),ab,V,T,ac,R,Fct,Fct,Fct⟩)
theorem tC {p0:Sig}{U Q S T}{p1:Det}{p2:Int}{I:Int}{K:Int}(X:Rd Rs J w 0 U Q p1.Next) (bc:Rd Pair.rp J w 0 S T p1.Pairs){r:VI}(h:lI p0 p1 p2 I K=some r):Ret prog 119 [.agg #[vi p0.In,vi p0.Out],.agg #[.slice U p1.Next.length Q,.slice S p1.Pairs.length T],vi p2,vi I,vi K] w (Pvs E6 2 J w r):=by
 refine Jp3 J func119 R ntmps119 R λbd=>Jj3<|Jx3 J 2 R λ_ _ af am ax=>Tv<|Jx3 af 3 R λ_ _ aj P G=>Tv<|Jb 1 R<|Jq<|Jj3 (have u:=ax.stp P;Jg4 tv R (Jh4 (haE u.cells) I39 Z39 R) (Ob h λbf aT h=>Jw3 R call39 (ir (J:=Mk aj) (p0:=p0) aT)<|Kb λa4 M c=>Tv<|Jn 2 R<|Ob h λaZ h aB=>Jk4 [2,3,4,5,6] 21 aZ M a4 5 tv ?_ ?_))
 exact Bk h (λaN h=>Jg4 tv R (Jh4 (haE (u.stp c).cells) I39 Z39 R)<|Jg4 tv R (Jh4 (haE (G.stp c).cells) I60 Z60 R)<|Ob h λ_ aU h=>Jw3 R call110 (tK (J:=Mk M) (p0:=p0) (p1:=p1) Gct Gct aU)<|Kb λ_ _ _=>Tv<|Jn 2 R<|Oh h<|Jv1 _ tv ⟨R,_,Fct⟩<|KM R) (λaN h=>Je4 R<|Je4 R<|Je4 R<|Jn 2 R<|Oh h<|Jl4 tv R)
 rintro _ a5 _ ⟨rfl,ag,f⟩
 refine Jn 1 R<|Ob aB λa0 h aC=>Jk4 [2,3,4,5,6] 25 a0 ag a5 3 tv ?_ ?_
 exact Bk h (λaO h=>Jn 3 R<|Oh h<|Jl4 tv R) (λaO h=>Jn 3 R<|Oh h<|Jl4 tv R)
 rintro _ a6 _ ⟨rfl,ah,g⟩
 refine Jn 1 R<|Ob aC λa1 h aD=>Jk4 [2,3,4,5,6] 32 a1 ah a6 6 tv ?_ ?_
 exact Bk h (λaP h=>Jn 1 R<|Je3 R U60 R Z51<|Jc3 R I51 ((G.stp<|T3 c f g).ld 0 R R)<|Js3 R U51 R R<|Jn 2 R<|Oh h<|Jl4 tv R) (λaP h=>Jn 2 R<|Je4 R<|Jn 3 R<|Oh h<|Jl4 tv R)
 rintro _ a7 _ ⟨rfl,ai,n⟩
 refine Jn 1 R<|Ob aD λa2 h aE=>Jk4 [2,3,4,5,6] 36 a2 ai a7 3 tv ?_ ?_
 exact Bk h (λaQ h=>Jn 3 R<|Oh h<|Jl4 tv R) (λaQ h=>Jn 3 R<|Oh h<|Jl4 tv R)
 rintro _ a8 _ ⟨rfl,N,o⟩
 refine Jn 1 R<|Ob aE λa3 h aF=>Jk4 [2,3,4,5,6] 42 a3 N a8 5 tv ?_ ?_
 exact Bk h (λaR h=>Jn 1 R<|Jg4 tv R (Jh4 (haE (u.stp<|T5 c f g n o).cells) I39 Z39 R)<|Ob h λ_ aV h=>Jw3 R C73 (dr (J:=Mk N) (p0:=p0) aV)<|Ki λ_ _ _=>Tv<|Jn 2 R<|Oh h<|Jv1 _ tv ⟨R,_,Fct⟩<|KM R) (λaR h=>Jn 1 R<|Je4 R<|Je4 R<|Jn 2 R<|Oh h<|Jl4 tv R)
 rintro _ _ _ ⟨rfl,O,C⟩
 refine have h:=aF;Jd ?_
 refine Bk h (λaS h=>Jy R<|Js<|Jp<|Jj3<|Jc4 O E6 6 R Y30 bS R λao ar ac z D ay=>Tv<|Jb 1 R<|Jq<|Jj3<|Je3 R U39 R Z2 (have V:=u.stp (T7 c f g n o C D);Jc3 R I2 (V.ld 1 R R) (Ob h λ_z46 aY h=>Jf R (rU R R R<|vy aY)<|Jb 1 R (Ob h λ_ aL h=>have aI:=gk aL;Ob h λab aK aG=>Jx1 (λe a=>∃b,∃x:VI,∃t p,e=[(11,.slice t x.length p)]/\Stp [6] z ac b a/\Oc E6 2 b a 6 t p x/\ab=FX x) (Jv<|Ju3 [2,3,4,5,6,46] (λk y e a=>∃b d,∃m:VI,∃i j,e=(11,.slice i m.length j)::(47,vi d)::y/\Stp [6] z ac b a/\Oc E6 2 b a 6 i j m/\0<=d/\FV ((FW .i64 (1 * 2 ^ (min (FV p0.Out)<|IntKind.bits IntKind.i64)))-d)=k/\cntM (iM p0 p1 p2 I K) k d m=some ab) ⟨_,_,⟨z,0,([]:VI),ao,ar,R,Jo3,ay,(by decide),(by simp),aK⟩,(KM R)⟩ ?_) ?_)))) (λaS h=>Jx R<|Jf3 R<|Ju<|Jw<|Jb2 (l:=[.tmp 10]) results119 (Jq2 R R) R<|Oh h<|⟨O,none,0,R,Fct,FZ⟩)
 rintro k _ _ ⟨A,d,m,i,j,rfl,E,az,Y,v,h⟩
 rcases k with _|k
 exact Jf3 R<|Jq<|Jx2 R (dcf v)<|Jc1<|Jt<|Jt<|Jb1<|Oh h<|Jw1 _ ⟨A,m,i,j,R,Fct,az,R⟩<|KM R
 refine Ob h λbe h H=>Jf3 R<|Jq<|Jw2 R (dct v)<|Js<|Jp<|Jq<|Jv<|Jf3 R<|Jq<|Xn A [0,2,3] [2,8,17,29,41,3,11,12,18,22,26,32,35,36,44] λ_ F=>Je3 R U60 R Z51<|Jn 4 R<|Jg R (Jd2 I51 R R<|hvC ((G.stp<|T9 c f g n o C D E F).ld 0 R R) R)<|Ob h λ_ Z h=>Jd3 R X Z U51 Z30 ?_
 obtain⟨_,_,W,aJ⟩:=(X.stp (T11 am P c f g n o C D E F)).gSl Z
 refine Jg R (Jd2 I30 R R<|hvC aJ R)<|Jg R (Jh4 (haC (V.stp<|E.tr F).cells R) I39 Z39 R)<|Ob h λ_ aW h=>Jw3 R C73 (dr (J:=Mk A) (p0:=p0) aW)<|Ki λa9 B an=>⟨(an.cl R),Jn 2 R<|Ob h λbg aa h=>Jd3 R W aa U30 Z2<|Jg R (Jd2 I2 R R<|hvC (W.gInt aa) R)<|Jn 1 R<|Jt1<|Jd<|Ob h λL h aH=>Jt3 [2,3,4,5,6,46,47] (λy e a=>∃b s q,e=(11,.slice s L.length q)::y/\Stp [6] B a9 b a/\Oc E6 2 b a 6 s q L) ?_ ?_⟩
 exact Bk h (λaM h=>Jy R<|Js<|Oh h<|Jw1 _ ⟨B,i,j,R,Jo3,Fct⟩<|KM R) (λaM h=>Jx R<|Jm3 2 R<|Ji4 B 9 [d] R Y30 bS R λba bb _ ad _ av=>Tv<|Ob h λ_ aX h=>Jd4 ad E6 6 [] R Y30 bS R Fct (FY (cd _) av.rdc) bU aX R λap aq _ ae _ aw=>Tv<|Jc 1 R<|Oh h<|Jw1 _ ⟨ae,ap,aq,R,Fct,aw⟩<|KM R)
 rintro _ _ ⟨al,s,q,rfl,_,aA⟩
 exact have h:=aH;Jz (Jp<|Jg3 R<|wr2 Y v aI ▸ (Ou h H (λH=>Ja2 ⟨al,d+1,L,s,q,R,Fct,aA,nxz Y,nxm v,H⟩ R)))
 rintro _ _ ⟨ak,x,t,p,rfl,_,_,rfl⟩
 exact have h:=yI aG;Jp (Jf3 R<|Ju<|Jb2 (l:=[.tmp 10]) results119 (Jq2 R R) R<|Oh h<|⟨(λau=>ren [(6,2)]<|ak au),t,p,R,Fct,Fct⟩)
theorem wc {p0:Sig}{aH aF aG aI}{p1:Machine}(b9:Rd Rs J w 0 aH aF p1.Next) (ca:Rd Rs J w 0 aG aI p1.Out){r:Machine}(h:mG p0 p1=some r):Ret prog 64 [.agg #[vi p0.In,vi p0.Out],.agg #[.slice aH p1.Next.length aF,.slice aG p1.Out.length aI]] w (λcC a=>∃b a6 a8 a7 a9,cC= .agg #[.slice a6 r.Next.length a8,.slice a7 r.Out.length a9]/\Ent J w b a/\Oc (FU E6 2) 30 b a 2 a6 a8 r.Next/\Oc (FU E6 2) 30 b a 3 a7 a9 r.Out):=by
 refine Jp3 J func64 R ntmps64 R λcT=>Jj3<|Jx3 J 2 R λ_ _ br aD b1=>Tv<|Jx3 br 3 R λ_ _ bu am aQ=>Tv<|Jy3 bu 4 R X89 R λ_ _ bg o _=>Tv<|Jd<|Jq<|Jj3 (have aM:=b1.stp (am.tr o);Jg4 tv R (Jh4 (haE aM.cells) I39 Z39 R) (Ob h λcV cs h=>Jw3 R call39 (ir (J:=Mk bg) (p0:=p0) cs)<|Kb λcE ax p=>Tv<|Jn 2 R<|Ob h λcB h ce=>Jk4 [3,4] 21 cB ax cE 5 tv ?_ ?_))
 exact Bk h (λco h=>Jg4 tv R (Jh4 (haE (aM.stp p).cells) I39 Z39 R)<|Jg4 tv R (Jh4 (haE (aQ.stp<|o.tr p).cells) I89 Z89 R)<|Ob h λ_ ct h=>Jw3 R call120 (kX (J:=Mk ax) (p0:=p0) (p1:=p1) Gct Gct ct)<|Kb λ_ _ _=>Tv<|Jn 2 R<|Oh h<|Jv1 _ tv ⟨R,_,Fct⟩<|KM R) (λco h=>Je4 R<|Je4 R<|Je4 R<|Jn 2 R<|Oh h<|Jl4 tv R)
 rintro _ _ _ ⟨rfl,ae,ak⟩
 refine have h:=ce;Jd ?_
 refine Bk h (λcp h=>Jy R<|Js<|Jp<|Jj3 (have aN:=aQ.stp (T3 o p ak);Jg4 tv R (Jh4 (haE aN.cells) I89 Z89 R) (Ob h λbc cu h=>have aO:=b9.stp (T5 aD am o p ak);have aP:=ca.stp (T5 aD am o p ak);Jw3 R call122 (rA (J:=Mk ae) (p0:=p1) Gct Gct cu) (Ks 9 (bW _) λcH cL _ bs al b3=>Tv<|have Z:=b3;Jb 1 R (Jl3 1 R<|Ob h λbd aW h=>Jd3 R Z.rdc aW U30 Z2<|Jc3 R I2 (Z.rdc.gInt aW)<|Ji4 bs 10 [bd] R Y30 bS R λbC bD _ bt D _=>Tv<|Jb 1 R<|Jj3<|Jf R (Jn4 [.slice none 0 0,.slice none 0 0] R)<|Jy3 bt 11 R X89 R λaK _ z E b4=>Tv<|Jm4 z 11 R Z89 R b4 R λba F b5=>Tv<|Jd<|Jq<|Jf3 R<|Ob h λa4 cl cf=>Jt3 [4,7] (λe f a=>∃b,∃k:VI×Int×VV×VV,∃aJ aE Q L I S,f=e/\Stp [10,11,12,13,14,15,16,17] z ba b a/\Oc E6 2 b a 10 aJ aE k.1/\Oc (FU E6 2) 30 b a 12 Q L k.2.2.1/\Oc (FU E6 2) 30 b a 13 I S k.2.2.2/\Bc b a 11 aK 89 [.slice Q k.2.2.1.length L,.slice I k.2.2.2.length S]/\a4=FX k) (Jv<|Ju3 [3,4,5,7] (λd e f a=>∃b,∃c:VI×Int×VV×VV,∃q s T V v u,f=(6,.slice q c.1.length s)::(8,vi c.2.1)::e/\Stp [10,11,12,13,14,15,16,17] z ba b a/\Oc E6 2 b a 10 q s c.1/\Oc (FU E6 2) 30 b a 12 T V c.2.2.1/\Oc (FU E6 2) 30 b a 13 v u c.2.2.2/\Bc b a 11 aK 89 [.slice T c.2.2.1.length V,.slice v c.2.2.2.length u]/\ci (dS p1 bc) d c=some a4) ⟨_,_,⟨z,((([bd]:VI):VI),(0:Int),([]:VV),([]:VV)),bC,bD,none,0,none,0,R,Jo3,Fct,FZ,FZ,b5,cl⟩,(KM R)⟩ ?_) ?_))))) (λcp h=>Jx R<|Jj3<|Jf R (Jn4 [.slice none 0 0,.slice none 0 0] R)<|Jm4 ae 4 R Z89 R Fct R λ_ _ b2=>Tv<|Jd<|Ju<|Jw<|Jb2 (l:=[.cell 4 89]) results64 (cc R b2 I89 Z89 R R) R<|Oh h<|⟨ae,none,0,none,0,R,Fct,FZ,FZ⟩)
 rintro d _ _ ⟨aA,c,q,s,T,V,v,u,rfl,G,aq,b7,b8,aR,h⟩
 rcases d with _|d
 cases h
 refine Ob h λ_ h aV=>Jq<|Jl3 2 R<|Js3 R U30 R R<|Jb 1 R ?_
 refine Bk h (λcq h=>Jy R<|Jc1<|Jt<|Jt ?_) (λcq h=>Jx R<|Js<|Jp<|Jq<|Jv<|Jj3<|Jc4 aA E6 14 R Y30 bS R λbE bz _ A m _=>Tv<|Jb 1 R<|Jq<|Jq<|Xn A [0,3,10] [2,8,11,14,29,3,15,20,21,26] λbb n=>Je3 R U89 R Z51<|Jn 2 R<|Ob h λ_ aX h=>Jd3 R aq.rdc aX U30 Z2<|Jn 1 R (have aS:=aN.stp (T7 al D E F G m n);Jg R (Jd2 I51 R R<|hvC (aS.ld 0 R R) R) (have aT:=aq.stp (m.tr n);Jg R (Jd2 I2 R R<|hvC (aT.rdc.gInt aX) R) (Ob h λbe aY h=>Jd3 R aO aY U51 Z30 ?_))))
 cases h
 exact have h:=aV;Jb1 (Oh h<|Jw1 _ ⟨aA,(c.1,c.2.1,c.2.2.1,c.2.2.2),q,s,T,V,v,u,R,Fct,aq,b7,b8,aR,R⟩<|KM R)
 obtain⟨_,_,ar,ck⟩:=(aO.stp (T7 al D E F G m n)).gSl aY
 refine Jg R (Jd2 I30 R R<|hvC ck R)<|Js3 R U30 R R<|Jt1<|Jd<|Ob h λa5 cm cg=>Jt3 [3,4,5,7,8] (λe f a=>∃b,∃g:VI×VI,∃N P X H,f=(6,.slice N g.1.length P)::(9,.slice X g.2.length H)::e/\Stp [10,14] A bb b a/\Oc E6 2 b a 10 N P g.1/\Oc E6 2 b a 14 X H g.2/\a5=FX g) (Jv<|Ju3 [3,4,5,7,8,44,45] (λd e f a=>∃b j,∃i:VI×VI,∃x t U W,f=(6,.slice x i.1.length t)::(9,.slice U i.2.length W)::(46,vi j)::e/\Stp [10,14] A bb b a/\Oc E6 2 b a 10 x t i.1/\Oc E6 2 b a 14 U W i.2/\0<=j/\FV ((be.length:Int)-j)=d/\cntM (iJ bc be) d j i=some a5) ⟨_,_,⟨A,0,(c.1,([]:VI)),q,s,bE,bz,R,Jo3,aT,Fct,(by decide),(by simp),cm⟩,(KM R)⟩ ?_) ?_
 rintro d _ _ ⟨aw,j,i,x,t,U,W,rfl,aB,bK,bL,ch,aU,h⟩
 rcases d with _|d
 exact Jf3 R<|Jq<|Jx2 R (dcf aU)<|Jc1<|Jt<|Jt<|Jb1<|Oh h<|Jw1 _ ⟨aw,(i.1,i.2),x,t,U,W,R,Fct,bK,bL,R⟩<|KM R
 refine Ob h λcU h au=>have aa:=dct aU;Jf3 R (Jq<|Jw2 R aa<|Js<|Jp<|Jq<|Jv<|Jj3<|Ob h λ_ aZ h=>Jd3 R ar aZ U30 Z2<|Jc3 R I2 ((ar.stp aB).gInt aZ)<|Jb 1 R<|Jl3 3 R<|Ob h λ_ a0 h=>Jd3 R Z.rdc a0 U30 Z2 (have ap:=Z.stp (T7 D E F G m n aB);Jc3 R I2 (ap.rdc.gInt a0) (Ob h λcW cv h=>Jw3 R call112 (dM (J:=Mk aw) Gct cv)<|Ki λcD ac bv=>Tv<|Jb 1 R<|Jq<|Jf3 R<|Ob h λy h cb=>Jt3 [3,4,5,7,8,9,44,45,46] (λe f a=>∃b K M,f=(6,.slice K y.1.length M)::(12,vi y.2)::e/\Stp [10] ac cD b a/\Oc E6 2 b a 10 K M y.1) ?_ ?_)))
 exact Bk h (λcn h=>Jy R<|Js<|Oh h<|Jw1 _ ⟨ac,x,t,R,Jo3,Fct⟩<|KM R) (λcn h=>Jx R<|Jl3 1 R<|Js3 R U30 R R<|Jb 1 R<|Jm3 3 R<|Ob h λcF a1 h=>Jd3 R ap.rdc a1 U30 Z2<|Jc3 R I2 ((ap.stp bv).rdc.gInt a1)<|Ji4 ac 17 [cF] R Y30 bS R λcJ cI _ bj _ bM=>Tv<|Ob h λ_ cw h=>Jd4 bj E6 10 [] R Y30 bS R Fct (FY (cd _) bM.rdc) bU cw R λbH bB _ bk _ bN=>Tv<|Jc 1 R<|Oh h<|Jw1 _ ⟨bk,bH,bB,R,Fct,bN⟩<|KM R)
 rintro _ _ ⟨bi,K,M,rfl,_,_⟩
 refine have h:=cb;Jp (Jm3 2 R<|Ji4 bi 17 [y.2] R Y30 bS R λcM cK _ bl _ bO=>Tv<|Ob h λcG cx h=>Jd4 bl E6 14 [] R Y30 bS R Fct (FY (cd _) bO.rdc) bU cx R λbG bA _ bm _ bP=>Tv<|Jc 1 R<|Jz<|Jp<|Jg3 R ?_)
 have cr:FW .i64 (j+1)=j+1:=wr1 ch (Jn2 aa) ar.len_le
 rw[cr]
 exact have aa:=Jn2 aa;Ou h au (λau=>Ja2 ⟨bm,j+1,(y.1,cG),K,M,bG,bA,R,Fct,Fct,bP,by omega,by omega,au⟩ R)
 rintro _ _ ⟨bh,g,N,P,X,H,rfl,af,aL,bJ,rfl⟩
 refine have h:=yI cg;Jp (Jj3<|Je3 R U89 R Z51<|Jc3 R I51 ((aR.stp<|T3 m n af).ld 0 R R)<|Jn 1 R<|Jb4 bh (FU E6 2) 15 [14] (parts:=[(0,.tmp 74)]) (cells:=[.slice X g.2.length H]) (xs:=([g.2]:VV)) R Y51 bY R (Jj4 ⟨_,_,R,bJ⟩) λcQ cO _ bn ag bQ=>Tv<|Ob h λab cy h=>Jd4 bn (FU E6 2) 12 [15] R Y51 bY R Fct bQ.src (c9 R) cy R λY O _ ad ah _=>Tv<|Je3 R U89 R Z51<|Jz3 ad 11 (off:=0) (vc:=[.slice Y ab.length O]) (cs':=[.slice Y ab.length O,.slice v c.2.2.2.length u]) R Z51 R Fct R λ_ ai bR=>Tv<|Jd<|Xr ad [0,3,10,11] (some 15) [2,11,17,20,23,3,12,24,29,30,7,34,37,40,44] [46] λ_ B=>Je3 R U89 R Z51<|Je3 R U89 R Z51<|Jn 2 R<|Ob h λ_ a2 h=>Jd3 R aL.rdc a2 U30 Z2<|Jg R (Jd2 I51 R R<|hvC ((bR.stp B).ld 1 R R) R)<|Jg R (Jd2 I51 R R<|hvC ((aS.stp<|T5 af ag ah ai B).ld 1 R R) R)<|Jg R (Jd2 I2 R R<|hvC ((aL.stp<|T4 ag ah ai B).rdc.gInt a2) R)<|Ob h λ_ a3 h=>Jd3 R aP a3 U51 Z30 ?_)
 obtain⟨_,_,_,cj⟩:=(aP.stp (T12 al D E F G m n af ag ah ai B)).gSl a3
 refine Jg R (Jd2 I30 R R<|hvC cj R)<|Jc4 ad E6 16 R Y30 bS R λcN cS _ bo C bT=>⟨(C.cl R),Ob h λbf cz h=>Jd4 bo E6 16 [] R Y30 bS R bT (FY (cd _) Fct) bU cz R λbx bF _ bp aj bV=>⟨((C.tr aj).cl R),Jb4 bp (FU E6 2) 17 [16] (parts:=[(0,.tmp 89)]) (cells:=[.slice bx bf.length bF]) (xs:=([bf]:VV)) R Y51 bY R (Jj4 ⟨_,_,R,bV⟩) λcR cP _ bq aC bX=>⟨((T3 C aj aC).cl R),Ob h λav cA h=>Jd4 bq (FU E6 2) 13 [17] R Y51 bY R Fct bX.src (c9 R) cA R λao an _ ay bw _=>⟨((T4 C aj aC bw).cl R),Je3 R U89 R Z51<|Jt1<|Jz3 ay 11 (off:=1) (vc:=[.slice ao av.length an]) (cs':=[.slice Y ab.length O,.slice ao av.length an]) R Z51 R Fct R λ_ _ bZ=>Tv<|Jo<|Jz<|Jp<|Jg3 R ?_⟩⟩⟩⟩
 cases h
 exact Ja2 ⟨ay,(g.1,((FW .i64<|c.2.1+1):Int),ab,av),N,P,Y,O,ao,an,R,Fct,Fct,Fct,Fct,bZ,aV⟩ R
 rintro _ _ ⟨az,k,aJ,aE,Q,L,I,S,rfl,_,_,_,_,b6,rfl⟩
 exact have h:=yI cf;Jp (Jj3<|Jg4 tv R (Jh4 (haE b6.cells) I89 Z89 R)<|Jm4 az 4 R Z89 R Fct R λ_ _ b0=>Tv<|Jd<|Ju<|Jb2 (l:=[.cell 4 89]) results64 (cc R b0 I89 Z89 R R) R<|Oh h<|⟨(λbI=>ren [(12,2),(13,3)]<|az bI),Q,L,I,S,R,Fct,Fct,Fct⟩)
theorem ru {p0 : Sig} {ai ae af ah} {p1 : Machine} (g1_0 : Rd Rs J w 0 ai ae p1.Next) (g1_1 : Rd Rs J w 0 af ah p1.Out) (gGT : Tb prog "internal/strconv.uint64pow10" .u64 Lib.pow10Tab J w) {r : ByteArray} (h : fx p0 p1 = some r) : Ret prog 63 [.agg #[vi p0.In, vi p0.Out], .agg #[.slice ai p1.Next.length ae, .slice af p1.Out.length ah]] w (fun v w' => ∃ κ', v = .string r ∧ Ent J w κ' w') := by
 refine Jp3 J func63 R ntmps63 R λhE=>Jj3<|Jx3 J 2 R λ_ _ K2 S3 f4=>Tv<|Jx3 K2 3 R λ_ _ K6 S7 f8=>Tv<|Jb 1 R<|Jq<|Jj3 (have f9:=f4.stp S7;Jg4 tv R (Jh4 (haE f9.cells) I39 Z39 R) (Ob h λx12 hx12 h=>Jw3 R call39 (ir (J:=Mk K6) (p0:=p0) hx12)<|Kb λw10 K13 S14=>Tv<|Jn 2 R<|Ob h λp19 h hK17=>Jk4 [3] 19 p19 K13 w10 5 tv ?_ ?_))
 exact Bk h (λht18 h=>Jg4 tv R (Jh4 (haE (f9.stp S14).cells) I39 Z39 R)<|Jg4 tv R (Jh4 (haE (f8.stp S14).cells) I89 Z89 R)<|Ob h λ_ hx17 h=>Jw3 R call120 (kX (J:=Mk K13) (p0:=p0) (p1:=p1) Gct Gct hx17)<|Kb λ_ _ _=>Tv<|Jn 2 R<|Oh h<|Jv1 _ tv ⟨R,_,Fct⟩<|KM R) (λht18 h=>Je4 R<|Je4 R<|Je4 R<|Jn 2 R<|Oh h<|Jl4 tv R)
 rintro _ w30 _ ⟨rfl,K31,S32⟩
 refine have h:=hK17;Jd ?_
 refine Bk h (λht33 h=>Jy R<|Js<|Jp<|Jf3 R<|Jq<|Jj3<|Je3 R U89 R Z51 (have f35:=f8.stp (S14.tr S32);Jc3 R I51 (f35.ld 0 R R) (Js3 R U51 R R<|Jb 1 R<|Ob h λq2 hq38 hK37=>Jx1 (λL w'=>∃κ',∃s3:ByteArray,L=[(5,.string s3)]/\Stp [6] K31 w30 κ' w'/\q2=FX s3) (Jv<|Ju3 [3,21,22] (λk E L w'=>∃κ' v23,∃s1:ByteArray,L=(5,.string s1)::(23,vi v23)::E/\Stp [6] K31 w30 κ' w'/\0<=v23/\FV ((p1.Next.length:Int)-v23)=k/\cntM (gF p1) k v23 s1=some q2) ⟨_,_,⟨K31,0,((ByteArray.mk #[]):ByteArray),R,Jo3,(by decide),(by simp),hq38⟩,(KM R)⟩ ?_) ?_))) (λht33 h=>Jx R<|Jf3 R<|Ju<|Jw<|Jb2 (l:=[.tmp 4]) results63 (Jq2 R R) R<|Oh h<|⟨K31,R,Fct⟩)
 rintro k _ _ ⟨K43,v23,s1,rfl,S44,hj36,hJ36,h⟩
 rcases k with _|k
 exact Jf3 R<|Jq<|Jx2 R (dcf hJ36)<|Jc1<|Jt<|Jt<|Jb1<|Oh h<|Jw1 _ ⟨K43,s1,R,Fct,R⟩<|KM R
 refine Ob h λo36 h hk45=>Jf3 R<|Jq<|Jw2 R (dct hJ36)<|Js<|Jp<|Jq<|Jv<|Jl3 1 R<|Ob h λx26 hx26 h=>Jd3 R g1_0 hx26 U51 Z30 ?_
 obtain⟨_,_,f47,hl48⟩:=(g1_0.stp (T5 S3 S7 S14 S32 S44)).gSl hx26
 refine Jc3 R I30 hl48<|Jb 2 R<|Jj3<|Jc4 K43 Ep.str 6 R Y33 dx R λak am w49 K50 S51 f52=>Tv<|Jb 1 R<|Jq<|Jl3 1 R<|Js3 R U30 R R<|Jb 1 R<|Ob h λq5 hq55 hK54=>Jt3 [3,5,21,22,23] (λE L w'=>∃κ',∃s6:(List ByteArray),∃ac ad,L=(8,.slice ac s6.length ad)::E/\Stp [6] K50 w49 κ' w'/\Oc Ep.str 9 κ' w' 6 ac ad s6/\q5=FX s6) (Jv<|Ju3 [3,5,6,21,22,23,29,30] (λk E L w'=>∃κ' v31,∃s4:(List ByteArray),∃ab aa,L=(8,.slice ab s4.length aa)::(31,vi v31)::E/\Stp [6] K50 w49 κ' w'/\Oc Ep.str 9 κ' w' 6 ab aa s4/\0<=v31/\FV ((x26.length:Int)-v31)=k/\cntM (eE p1 v23 x26) k v31 s4=some q5) ⟨_,_,⟨K50,0,(([]:List ByteArray):(List ByteArray)),ak,am,R,Jo3,f52,(by decide),(by simp),hq55⟩,(KM R)⟩ ?_) ?_
 rintro k _ _ ⟨K61,v31,s4,ab,aa,rfl,S62,f63,hj53,hJ53,h⟩
 rcases k with _|k
 exact Jf3 R<|Jq<|Jx2 R (dcf hJ53)<|Jc1<|Jt<|Jt<|Jb1<|Oh h<|Jw1 _ ⟨K61,s4,ab,aa,R,Fct,f63,R⟩<|KM R
 refine Ob h λo53 h hk64=>Jf3 R<|Jq<|Jw2 R (dct hJ53)<|Js<|Jp<|Jq<|Jv<|Jl3 1 R<|Ob h λ_ hx34 h=>Jd3 R f47 hx34 U30 Z2<|Jc3 R I2 ((f47.stp<|S51.tr S62).gInt hx34)<|Jb 2 R<|Xn K61 [0,3] [2,5,14,20,29,15,23,24,32,33,7,11,37,41,43,46,50] λ_ S66=>Jn 2 R<|Je3 R U89 R Z51<|Jn 2 R<|Jg R (Jd2 I51 R R<|hvC ((f35.stp<|T4 S44 S51 S62 S66).ld 1 R R) R)<|Ob h λ_ hx43 h=>Jd3 R g1_1 hx43 U51 Z30 ?_
 obtain⟨_,_,f70,hl71⟩:=(g1_1.stp (T8 S3 S7 S14 S32 S44 S51 S62 S66)).gSl hx43
 refine Jg R (Jd2 I30 R R<|hvC hl71 R)<|Ob h λ_ hx46 h=>Jd3 R f70 hx46 U30 Z2<|Jg R (Jd2 I2 R R<|hvC (f70.gInt hx46) R) (Ob h λ_ hx38 h=>have f72:=gGT.stp (T8 S3 S7 S14 S32 S44 S51 S62 S66);Jw3 R call56 (gL (J:=Mk K61) (f72.map (mp [] 0) R R) hx38) ?_)
 rintro _ _ ⟨_,rfl,e75⟩
 refine Im e75 7 R (λK76 S77 _=>⟨(S77.cl R),Ob h λ_ hx39 h=>Jf R (dg R R R hx39)<|Ob h λ_ hx48 h=>Jw3 R call56 (gL (J:=Mk K76) ((f72.stp S77).map (mp [] 0) R R) hx48) ?_⟩)
 rintro _ _ ⟨_,rfl,e83⟩
 exact Im e83 9 R (λK84 S85 _=>⟨((S77.tr S85).cl R),Ob h λx49 hx49 h=>Jf R (dg R R R hx49)<|Jb4 K84 Ep.str 11 [] (parts:=[(0,.tmp 49)]) (cells:=[.string x49]) (xs:=([x49]:List ByteArray)) R Y33 dx R (Jj4 R) λan ao _ K89 S90 f91=>⟨((T3 S77 S85 S90).cl R),Ob h λx51 hx51 h=>Jd4 K89 Ep.str 6 [] R Y33 dx R Fct (FY ug f91.rdc) bU hx51 R λal aj _ K94 S95 f96=>⟨((T4 S77 S85 S90 S95).cl R),Jn 1 R<|Jt1<|Jo<|Jz<|Jp<|Jg3 R<|wr2 hj53 hJ53 f47.len_le ▸ (Ou h hk64 (λhk64=>Ja2 ⟨K94,v31+1,x51,al,aj,R,Fct,f96,nxz hj53,nxm hJ53,hk64⟩ R))⟩⟩⟩)
 rintro _ _ ⟨K57,s6,ac,ad,rfl,_,f59,rfl⟩
 refine have h:=yI hK54;Jp (Jm3 2 R<|Ob h λ_ hx55 h=>Jw3 R call121 (kl (J:=Mk K57) (Jn3 f59.rdc) hx55) ?_)
 rintro _ _ ⟨_,rfl,e99⟩
 exact Im e99 7 R (λK100 _ _=>Tv<|Ob h λ_ hx56 h=>Jf R (dg R R R hx56)<|Ob h λx57 hx57 h=>Jf R (dg R R R hx57)<|Jc 1 R<|Jz<|Jp<|Jg3 R<|wr2 hj36 hJ36 g1_0.len_le ▸ (Ou h hk45 (λhk45=>Ja2 ⟨K100,v23+1,x57,R,Fct,nxz hj36,nxm hJ36,hk45⟩ R)))
 rintro _ _ ⟨K40,s3,rfl,_,rfl⟩
 exact have h:=yI hK37;Jp (Jf3 R<|Ju<|Jb2 (l:=[.tmp 4]) results63 (Jq2 R R) R<|Oh h<|⟨K40,R,Fct⟩)
theorem nC {p0:Sig}{E B D C}{p1:Det}(s:Rd Rs J w 0 E B p1.Next) (aq:Rd Pair.rp J w 0 D C p1.Pairs){r:Bool}(h:nA p0 p1=some r):Ret prog 45 [.agg #[vi p0.In,vi p0.Out],.agg #[.slice E p1.Next.length B,.slice D p1.Pairs.length C]] w (Pvb J w r):=by
 refine Jp3 J func45 R ntmps45 R λar=>Jj3<|Jx3 J 2 R λ_ _ P U W=>Tv<|Jx3 P 3 R λ_ _ S A j=>Tv<|Jb 1 R<|Jj3<|Je3 R U60 R Z51<|Jc3 R I51 (j.ld 0 R R)<|Js3 R U51 R R<|Jb 1 R<|Jq<|Jj3 (have H:=W.stp A;Jg4 tv R (Jh4 (haE H.cells) I39 Z39 R) (Ob h λav ah h=>Jw3 R call24 (lr (J:=Mk S) (p0:=p0) ah)<|Kb λao v c=>Tv<|Jn 2 R<|Ob h λam h X=>Jk4 [2,3,5] 17 am v ao 4 tv ?_ ?_))
 exact Bk h (λad h=>Jn 1 R<|Ob h λ_ ai h=>Jw3 R C25 (dJ (J:=Mk v) ai)<|Kb λ_ _ _=>Tv<|Jn 2 R<|Oh h<|Jv1 _ tv ⟨R,_,Fct⟩<|KM R) (λad h=>Jn 1 R<|Je4 R<|Jn 2 R<|Oh h<|Jl4 tv R)
 rintro _ O _ ⟨rfl,g,d⟩
 refine have h:=X;Jd ?_
 refine Bk h (λae h=>Jy R<|Js<|Jp<|Jq<|Jf3 R<|Ob h λN ac I=>Jt3 [3,5] (λm o t=>∃u,o=m/\Stp [] g O u t/\N=FX ()) (Jv<|Ju3 [2,3,5] (λf m o t=>∃u b,o=(6,vi b)::m/\Stp [] g O u t/\0<=b/\FV ((p1.Next.length:Int)-b)=f/\cntM (nB p0 p1) f b ()=some N) ⟨_,_,⟨g,0,R,Jo3,(by decide),(by simp),ac⟩,(KM R)⟩ ?_) ?_) (λae h=>Jx R<|Jf3 R<|Ju<|Jw<|Jb2 (l:=[.tmp 4]) results45 (Jq2 R R) R<|Oh h<|⟨g,R,Fct⟩)
 rintro f _ _ ⟨n,b,rfl,i,K,k,h⟩
 rcases f with _|f
 exact Jq<|Jl3 1 R<|Je3 R U60 R Z51<|Jc3 R I51 ((j.stp<|T3 c d i).ld 0 R R)<|Js3 R U51 R R<|Jb 1 R<|Jx2 R (dcf k)<|Jc1<|Jt<|Jt<|Jb1<|Oh h<|Jw1 _ ⟨n,R,Fct,R⟩<|KM R
 refine Ob h λau h a=>have Z:=dct k;Jq (Jl3 1 R<|Je3 R U60 R Z51 (have F:=j.stp (T3 c d i);Jc3 R I51 (F.ld 0 R R) (Js3 R U51 R R<|Jb 1 R<|Jw2 R Z<|Js<|Jp<|Jq<|Jv<|Jq<|Xn n [0,2,3] [2,8,3,11,12,17,18,22,26,29,32,38,47,33,41,42,49,53,56] λ_ p=>Je3 R U60 R Z51<|Jn 1 R (have G:=F.stp p;Jg R (Jd2 I51 R R<|hvC (G.ld 0 R R) R) (Ob h λaw L h=>Jd3 R s L U51 Z30 ?_)))))
 have q:=s.stp (T6 U A c d i p)
 obtain⟨_,_,_,aa⟩:=q.gSl L
 refine Jg R (Jd2 I30 R R<|hvC aa R)<|Js3 R U30 R R<|Jg R (Jh4 (haC (H.stp<|T4 c d i p).cells R) I39 Z39 R)<|Ob h λax aj h=>Jw3 R call26 (gv (J:=Mk n) (p0:=p0) aj)<|Ki λap x e=>⟨(e.cl R),Jn 2 R<|Ob h λan h Y=>Jk4 [2,3,5,6] 43 an x ap 9 (e.cl R) ?_ ?_⟩
 refine Bk h (λaf h=>Je3 R U60 R Z51<|Jn 2 R<|Jg R (Jd2 I51 R R<|hvC (G.ld 0 R R) R)<|Ob h λ_ M h=>Jd3 R q M U51 Z30 ?_) (λaf h=>Jn 3 R<|Jf4 R<|Jn 1 R<|Jf4 R<|Je4 R<|Jn 2 R<|Oh h<|Jv1 _ (e.cl R) ⟨R,_,Jo3⟩<|KM R)
 obtain⟨_,_,_,ab⟩:=q.gSl M
 exact Jg R (Jd2 I30 R R<|hvC ab R)<|Ob h λ_ ak h=>Jw3 R call89 (uY (J:=Mk x) Gct ak)<|Kb λ_ _ z=>⟨((e.tr z).cl R),Jn 2 R<|Oh h<|Jv1 _ ((e.tr z).cl R) ⟨R,_,Fct⟩<|KM R⟩
 rintro _ _ _ ⟨rfl,y,_⟩
 refine have h:=Y;Jt1 (Jd ?_)
 exact Bk h (λag h=>Jy R<|Js<|Jz<|Jp<|Jg3 R<|wr2 K k s.len_le ▸ (Ou h a (λa=>Ja2 ⟨y,b+1,R,Fct,nxz K,nxm k,a⟩ R))) (λag h=>Jx R<|Jf3 R<|Ju<|Ja1<|Jw<|Jw<|Ou h a (λa=>Ov a I (λh=>Ja1<|Jr2<|Jw<|Jb2 (l:=[.tmp 4]) results45 (Jq2 R R) R<|Oh h<|⟨y,R,Fct⟩)))
 rintro _ _ ⟨Q,rfl,V,rfl⟩
 exact have h:=yI I;Jp (Jj3<|Je3 R U60 R Z58<|Jc3 R I58 ((j.stp<|T3 c d V).ld 1 R R)<|Jn 1 R<|Ob h λ_ al h=>Jw3 R call90 (qU (J:=Mk Q) Gct al)<|Kb λ_ T _=>Tv<|Jb 1 R<|Ju<|Jb2 (l:=[.tmp 4]) results45 (Jq2 R R) R<|Oh h<|⟨T,R,Fct⟩)
theorem ll {p0:Sig}{A v y z}{p1:Det}{C B x u}{p2:Det}(ar:Rd Rs J w 0 A v p1.Next) (au:Rd Pair.rp J w 0 y z p1.Pairs) (av:Rd Rs J w 0 C B p2.Next) (aw:Rd Pair.rp J w 0 x u p2.Pairs){r:Det×Bool}(h:lY p0 p1 p2=some r):Ret prog 43 [.agg #[vi p0.In,vi p0.Out],.agg #[.slice A p1.Next.length v,.slice y p1.Pairs.length z],.agg #[.slice C p2.Next.length B,.slice x p2.Pairs.length u]] w (λao n=>∃o E G F H,ao= .tuple #[.agg #[.slice E r.1.Next.length G,.slice F r.1.Pairs.length H],.bool r.2]/\Ent J w o n/\Oc (FU E6 2) 30 o n 2 E G r.1.Next/\Oc Pair.ep120 120 o n 3 F H r.1.Pairs):=by
 refine Jp3 J func43 R ntmps43 R λax=>Jj3<|Jx3 J 2 R λ_ _ L _ X=>Tv<|Jx3 L 3 R λ_ _ N P ab=>Tv<|Jx3 N 4 R λ_ _ I s j=>Tv<|Jy3 I 5 R X60 R λ_ _ K b _=>Tv<|Jb 1 R<|Jq<|Jj3 (have k:=X.stp (T3 P s b);Jg4 tv R (Jh4 (haE k.cells) I39 Z39 R) (have m:=ab.stp (s.tr b);Jg4 tv R (Jh4 (haE m.cells) I60 Z60 R) (Ob h λay ai h=>Jw3 R call45 (nC (J:=Mk K) (p0:=p0) (p1:=p1) Gct Gct ai)<|Kb λap p a=>Tv<|Jn 2 R<|Ob h λam h ad=>Jk4 [3,4,5,6] 17 am p ap 5 tv ?_ ?_)))
 exact Bk h (λaf h=>Jg4 tv R (Jh4 (haE (k.stp a).cells) I39 Z39 R)<|Jg4 tv R (Jh4 (haE (j.stp<|b.tr a).cells) I60 Z60 R)<|Ob h λ_ aj h=>Jw3 R call45 (nC (J:=Mk p) (p0:=p0) (p1:=p2) Gct Gct aj)<|Kb λ_ _ _=>Tv<|Jn 2 R<|Oh h<|Jv1 _ tv ⟨R,_,Fct⟩<|KM R) (λaf h=>Je4 R<|Je4 R<|Je4 R<|Jn 2 R<|Oh h<|Jl4 tv R)
 rintro _ aq _ ⟨rfl,M,c⟩
 refine Jn 1 R<|Ob ad λan h ae=>Jk4 [3,4,5,6] 27 an M aq 9 tv ?_ ?_
 exact Bk h (λag h=>Je3 R U60 R Z58<|Jc3 R I58 ((m.stp<|a.tr c).ld 1 R R)<|Js3 R U58 R R<|Je3 R U60 R Z58<|Jc3 R I58 ((j.stp<|T3 b a c).ld 1 R R)<|Js3 R U58 R R<|Jn 3 R<|Oh h<|Jl4 tv R) (λag h=>Jn 1 R<|Je4 R<|Jn 2 R<|Je4 R<|Jn 4 R<|Oh h<|Jl4 tv R)
 rintro _ _ _ ⟨rfl,d,e⟩
 refine have h:=ae;Jd ?_
 refine Bk h (λah h=>Jy R<|Js<|Jp<|Jq<|Xn d [2,3,4] [0,3,6,10,13,17,20,22,26] λ_ f=>Jg R (Jh4 (haC (m.stp<|T4 a c e f).cells R) I60 Z60 R)<|Jg R (Jh4 (haC (j.stp<|T5 b a c e f).cells R) I60 Z60 R)<|Jg R (Jh4 (haC (k.stp<|T4 a c e f).cells R) I39 Z39 R)<|Ob h λ_ ak h=>Jw3 R call26 (gv (J:=Mk d) (p0:=p0) ak)<|Ki λ_ O g=>⟨(g.cl R),Ob h λ_ al h=>Jw3 R call85 (ux (J:=Mk O) (p0:=p1) (p1:=p2) Gct Gct Gct Gct al) ?_⟩) (λah h=>Jx R<|Jj3<|Jf R (Jn4 [.slice none 0 0,.slice none 0 0] R)<|Jm4 d 5 R Z60 R Fct R λ_ _ Y=>Tv<|Jb 1 R<|Ju<|Jw<|Jb2 (l:=[.cell 6 60,.tmp 7]) results43 (cc R Y I60 Z60 R<|Jq2 R R) R<|Oh h<|⟨d,none,0,none,0,R,Fct,FZ,FZ⟩)
 rintro _ _ ⟨_,S,Q,U,T,rfl,W,Z,aa⟩
 exact Im W 10 R (λq t D=>⟨((g.tr t).cl R),Jn 2 R<|Jm4 q 5 R Z60 R Fct R λ_ i ac=>⟨((T3 g t i).cl R),Jn 1 R<|Jt1<|Jd<|Ju<|Jb2 (l:=[.cell 6 60,.tmp 7]) results43 (cc R ac I60 Z60 R<|Jq2 R R) R<|Oh h<|⟨(λV=>ren [(12,2),(13,3)]<|q V),S,Q,U,T,R,Fct,(((Z.mx (cF (bW _) _) D R (R:10+2=12)).stp i).map (ren [(12,2),(13,3)]) R R),(((aa.mx Pair.no120 D R (R:10+3=13)).stp i).map (ren [(12,2),(13,3)]) R R)⟩⟩⟩)
theorem ul {p0:Sig}{bC bA bB bD}{p1:Det}(dD:Rd Rs J w 0 bC bA p1.Next) (dE:Rd Pair.rp J w 0 bB bD p1.Pairs){r:Arena×VP×Bool}(h:iG p0 p1=some r):Ret prog 91 [.agg #[vi p0.In,vi p0.Out],.agg #[.slice bC p1.Next.length bA,.slice bB p1.Pairs.length bD]] w (λee a=>∃b b6 b9 b7 ca b8 cb,ee= .tuple #[.agg #[.slice b6 r.1.Owner.length b9,.slice b7 r.1.Next.length ca],.slice b8 r.2.1.length cb,.bool r.2.2]/\Ent J w b a/\Oc E6 2 b a 2 b6 b9 r.1.Owner/\Oc (F1 Rs) 30 b a 3 b7 ca r.1.Next/\Oc Pair.ep120 120 b a 4 b8 cb r.2.1):=by
 refine Jp3 J func91 R ntmps91 R λeE=>Jj3<|Jx3 J 2 R λ_ _ ct bz dn=>Tv<|Jx3 ct 3 R λ_ _ cy aY dy=>Tv<|Jy3 cy 4 R X53 R λ_ _ cl O _=>Tv<|Jb 2 R<|Jq<|Jj3 (have bE:=dn.stp (aY.tr O);Jg4 tv R (Jh4 (haE bE.cells) I39 Z39 R) (have bH:=dy.stp O;Jg4 tv R (Jh4 (haE bH.cells) I60 Z60 R) (Ob h λeO d6 h=>have bJ:=dD.stp (T3 bz aY O);have a7:=dE.stp (T3 bz aY O);Jw3 R call45 (nC (J:=Mk cl) (p0:=p0) (p1:=p1) Gct Gct d6) (Kb λ_ bk aW=>Tv<|Jb 1 R ?_))))
 refine Bk h (λd0 h=>Jy R<|Js<|Jp<|Jj3<|Je3 R U60 R Z51 (have aA:=bH.stp aW;Jc3 R I51 (aA.ld 0 R R) (Js3 R U51 R R<|Jb 1 R<|Jj3 (have bO:=bE.stp aW;Jg4 tv R (Jh4 (haE bO.cells) I39 Z39 R) (Ob h λx d7 h=>Jw3 R call149 (uy (J:=Mk bk) (p0:=p0) d7)<|Ki λ_ cx S=>Tv<|Jb 1 R<|Jj3<|Jf R (Jn4 [.slice none 0 0,.slice none 0 0] R)<|Jy3 cx 9 R X53 R λs _ N T dp=>Tv<|Jm4 N 9 R Z53 R dp R λch U dq=>Tv<|Jd<|Jq<|Jf3 R<|Ob h λb3 dU dI=>Jt3 [2,3,4,7,8,9] (λd e a=>∃b,∃m:VI×VV,∃aa aj az ao,e=d/\Stp [9,10,11,12,14] N ch b a/\Oc E6 2 b a 10 aa aj m.1/\Oc (F1<|Rs) 30 b a 11 az ao m.2/\Bc b a 9 s 53 [.slice aa m.1.length aj,.slice az m.2.length ao]/\b3=FX m) (Jv<|Ju3 [2,3,4,7,8,9] (λc d e a=>∃b g,∃i:VI×VV,∃am ap D F,e=(10,vi g)::d/\Stp [9,10,11,12,14] N ch b a/\Oc E6 2 b a 10 am ap i.1/\Oc (F1<|Rs) 30 b a 11 D F i.2/\Bc b a 9 s 53 [.slice am i.1.length ap,.slice D i.2.length F]/\0<=g/\FV ((p1.Next.length:Int)-g)=c/\cntM (gl p1 x) c g i=some b3) ⟨_,_,⟨N,0,(([]:VI),([]:VV)),none,0,none,0,R,Jo3,FZ,FZ,dq,(by decide),(by simp),dU⟩,(KM R)⟩ ?_) ?_))))) (λd0 h=>Jx R<|Jj3<|Jf R (Jn4 [.slice none 0 0,.slice none 0 0] R)<|Jc4 bk Pair.ep120 7 R Y58 cQ R λcM cN _ bm _ _=>Tv<|Jm4 bm 4 R Z53 R Fct R λ_ _ dm=>Tv<|Jb 2 R<|Ju<|Jw<|Jb2 (l:=[.cell 4 53,.tmp 5,.tmp 6]) results91 (cc R dm I53 Z53 R<|Jq2 R<|Jq2 R R) R<|Oh h<|⟨(λI=>ren [(7,4)]<|bm I),none,0,none,0,cM,cN,R,Fct,FZ,FZ,Fct⟩)
 rintro c _ _ ⟨bo,g,i,am,ap,D,F,rfl,_,du,dv,bP,dO,bR,h⟩
 rcases c with _|c
 exact Jq<|Jf3 R<|Jx2 R (dcf bR)<|Jc1<|Jt<|Jt<|Jb1<|Oh h<|Jw1 _ ⟨bo,(i.1,i.2),am,ap,D,F,R,Fct,du,dv,bP,R⟩<|KM R
 refine Ob h λeI h bc=>have aF:=dct bR;Jq (Jf3 R<|Jw2 R aF<|Js<|Jp<|Jq<|Jv<|Jj3<|Jc4 bo E6 12 R Y30 bS R λcU cL cj aQ cI dw=>Tv<|Jb 1 R<|Jq<|Jf3 R (Ob h λ_ dX h=>have dL:=gk dX;Ob h λb4 dV dJ=>Jt3 [2,3,4,7,8,9,10] (λd e a=>∃b,∃t:VI,∃aw ax,e=(11,.slice aw t.length ax)::d/\Stp [12] aQ cj b a/\Oc E6 2 b a 12 aw ax t/\b4=FX t) (Jv<|Ju3 [2,3,4,7,8,9,10] (λc d e a=>∃b o,∃L:VI,∃Z ay,e=(11,.slice Z L.length ay)::(12,vi o)::d/\Stp [12] aQ cj b a/\Oc E6 2 b a 12 Z ay L/\0<=o/\FV (x-o)=c/\cntM (gp p1 x g) c o L=some b4) ⟨_,_,⟨aQ,0,([]:VI),cU,cL,R,Jo3,dw,(by decide),(by simp),dV⟩,(KM R)⟩ ?_) ?_))
 rintro c _ _ ⟨bp,o,L,Z,ay,rfl,_,dz,bX,aD,h⟩
 rcases c with _|c
 exact Jq<|Jf3 R<|Jx2 R (dcf aD)<|Jc1<|Jt<|Jt<|Jb1<|Oh h<|Jw1 _ ⟨bp,L,Z,ay,R,Fct,dz,R⟩<|KM R
 exact Ob h λeJ h bd=>Jq<|Jf3 R<|Jw2 R (dct aD)<|Js<|Jp<|Jq<|Jv<|Jm3 8 R<|Ji4 bp 13 [(FW .i64 ((FW .i64 ((p1.Next.length:Int)+(FW .i64<|g * x)))+o))] R Y30 bS R λeu ev _ cA _ dA=>Tv<|Ob h λeh d8 h=>Jd4 cA E6 12 [] R Y30 bS R Fct (FY (cd _) dA.rdc) bU d8 R λcW cV _ cB _ dB=>Tv<|Jc 1 R<|Jz<|Jp<|Jg3 R<|wr2 bX aD dL ▸ (Ou h bd (λbd=>Ja2 ⟨cB,o+1,eh,cW,cV,R,Fct,dB,nxz bX,nxm aD,bd⟩ R))
 rintro _ _ ⟨cz,t,aw,ax,rfl,cJ,dx,rfl⟩
 refine have h:=yI dJ;Jp (Jj3<|Je3 R U53 R Z30<|Jc3 R I30 ((bP.stp<|cI.tr cJ).ld 0 R R)<|Ji4 cz 13 [1] R Y30 bS R λet ew _ cC cK dC=>Tv<|Ob h λaJ d9 h=>Jd4 cC E6 10 [] R Y30 bS R Fct (FY (cd _) dC.rdc) bU d9 R λad X _ bq cD _=>Tv<|Je3 R U53 R Z30<|Jz3 bq 9 (off:=0) (vc:=[.slice ad aJ.length X]) (cs':=[.slice ad aJ.length X,.slice D i.2.length F]) R Z30 R Fct R λef cE cZ=>Tv<|Jd<|Jk3<|Je3 R U53 R Z51<|Jc3 R I51 (cZ.ld 1 R R)<|Jn 1 R ?_)
 obtain⟨cm,_,ei⟩:=eD bq ef 12
 refine Jb4 cm (F1<|Rs) 14 [] (parts:=[(0,.tmp 57)]) (cells:=[.slice aw t.length ax]) (xs:=([t]:VV)) R Y51 bY R (Jj4 ⟨_,_,R,(Sl.z1<|Sl.st ei (dx.stp<|T3 cK cD cE).rdc)⟩) λbn es _ cn _ c0=>Tv<|Ob h λbf ea h=>Jd4 cn (F1<|Rs) 11 [14] R Y51 bY R Fct c0.src (c9 R) ea R λa4 a6 _ bh _ _=>Tv<|Je3 R U53 R Z51<|Jz3 bh 9 (off:=1) (vc:=[.slice a4 bf.length a6]) (cs':=[.slice ad aJ.length X,.slice a4 bf.length a6]) R Z51 R Fct R λ_ _ c1=>Tv<|Jo<|Jz<|Jp<|Jg3 R ?_
 have d2:FW .i64 (g+1)=g+1:=wr1 dO (Jn2 aF) bJ.len_le
 rw[d2]
 exact have aF:=Jn2 aF;Ou h bc (λbc=>Ja2 ⟨bh,g+1,(aJ,bf),ad,X,a4,a6,R,Fct,Fct,Fct,c1,by omega,by omega,bc⟩ R)
 rintro _ ci ⟨aP,m,aa,aj,az,ao,rfl,V,dr,ds,dt,rfl⟩
 refine have h:=yI dI;Jp (Jq<|Jf3 R<|Ob h λb5 dR dF=>Jt3 [3,4,9] (λd e a=>∃b,∃u:VI×VV,∃aq W av ak,e=d/\Stp [9,10,11,16] aP ci b a/\Oc E6 2 b a 10 aq W u.1/\Oc (F1<|Rs) 30 b a 11 av ak u.2/\Bc b a 9 s 53 [.slice aq u.1.length W,.slice av u.2.length ak]/\b5=FX u) (Jv<|Ju3 [2,3,4,7,8,9] (λc d e a=>∃b p,∃f:VI×VV,∃G B H A,e=(13,vi p)::d/\Stp [9,10,11,16] aP ci b a/\Oc E6 2 b a 10 G B f.1/\Oc (F1<|Rs) 30 b a 11 H A f.2/\Bc b a 9 s 53 [.slice G f.1.length B,.slice H f.2.length A]/\0<=p/\FV ((p1.Next.length:Int)-p)=c/\cntM (gq p0 p1 x) c p f=some b5) ⟨_,_,⟨aP,0,(m.1,m.2),aa,aj,az,ao,R,Jo3,dr,ds,dt,(by decide),(by simp),dR⟩,(KM R)⟩ ?_) ?_)
 rintro c _ ce ⟨M,p,f,G,B,H,A,rfl,cF,bF,bG,bI,bT,aB,h⟩
 rcases c with _|c
 exact Jq<|Jf3 R<|Jx2 R (dcf aB)<|Jc1<|Jt<|Jt<|Jb1<|Oh h<|Jw1 _ ⟨M,(f.1,f.2),G,B,H,A,R,Fct,bF,bG,bI,R⟩<|KM R
 refine Ob h λeF h a9=>Jq<|Jf3 R<|Jw2 R (dct aB)<|Js<|Jp<|Jq<|Jv<|Jf3 R (Ob h λ_ dW h=>have dK:=gk dW;Ob h λb1 dS dG=>Jt3 [2,3,4,7,8,9,13] (λd e a=>∃b,∃k:VI×VV,∃af al ar Y,e=d/\Stp [9,10,11,16] M ce b a/\Oc E6 2 b a 10 af al k.1/\Oc (F1<|Rs) 30 b a 11 ar Y k.2/\Bc b a 9 s 53 [.slice af k.1.length al,.slice ar k.2.length Y]/\b1=FX k) (Jv<|Ju3 [2,3,4,7,8,9,13] (λc d e a=>∃b n,∃j:VI×VV,∃ae ab C E,e=(14,vi n)::d/\Stp [9,10,11,16] M ce b a/\Oc E6 2 b a 10 ae ab j.1/\Oc (F1<|Rs) 30 b a 11 C E j.2/\Bc b a 9 s 53 [.slice ae j.1.length ab,.slice C j.2.length E]/\0<=n/\FV (x-n)=c/\cntM (gt p0 p1 p) c n j=some b1) ⟨_,_,⟨M,0,(f.1,f.2),G,B,H,A,R,Jo3,bF,bG,bI,(by decide),(by simp),dS⟩,(KM R)⟩ ?_) ?_)
 rintro c _ _ ⟨bi,n,j,ae,ab,C,E,rfl,bs,c6,bK,bL,dN,bQ,h⟩
 rcases c with _|c
 exact Jq<|Jf3 R<|Jx2 R (dcf bQ)<|Jc1<|Jt<|Jt<|Jb1<|Oh h<|Jw1 _ ⟨bi,(j.1,j.2),ae,ab,C,E,R,Fct,c6,bK,bL,R⟩<|KM R
 refine Ob h λeG h ba=>have aE:=dct bQ;Jq (Jf3 R<|Jw2 R aE<|Js<|Jp<|Jq<|Jv<|Jj3<|Je3 R U53 R Z30<|Jc3 R I30 (bL.ld 0 R R)<|Ji4 bi 12 [0] R Y30 bS R λer eq _ cq aT c7=>Tv<|Ob h λaK eb h=>Jd4 cq E6 10 [] R Y30 bS R Fct (FY (cd _) c7.rdc) bU eb R λau ac _ aL aU c8=>Tv<|Je3 R U53 R Z30<|Jz3 aL 9 (off:=0) (vc:=[.slice au aK.length ac]) (cs':=[.slice au aK.length ac,.slice C j.2.length E]) R Z30 R Fct R λ_ P da=>Tv<|Jd<|Xr aL [2,3,9] (some 10) [2,14,17,3,6,9,19,22,25,29] [31] λ_ y=>Je3 R U53 R Z51<|Jn 2 R (have db:=da.stp y;have br:=(T10 S T U V cF bs aT aU P y);Jg R (Jd2 I51 R R<|hvC (db.ld 1 R R) R) (Jg R (Jh4 (haC (bO.stp br).cells R) I39 Z39 R)<|Jg R (Jh4 (haC (aA.stp br).cells R) I60 Z60 R)<|Ob h λck ec h=>Jw3 R call150 (vb (J:=λI=>mp [] 1<|aL I) (p0:=p0) (p1:=p1) (Jm2 Fct (mp [] 1) R R) (Jm2 Fct (mp [] 1) R R) ec) ?_)))
 rintro _ _ ⟨_,cT,cO,rfl,cY,dc⟩
 refine Im0 cY 13 R (λcr q _ ej=>⟨(q.cl R),Jb4 cr (F1<|Rs) 16 [] (parts:=[(0,.tmp 82)]) (cells:=[.slice cT ck.length cO]) (xs:=([ck]:VV)) R Y51 bY R (Jj4 ⟨_,_,R,(Sl.z1<|dc.mx ej)⟩) λey eo _ cs z dd=>⟨((q.tr z).cl R),Ob h λbg ed h=>Jd4 cs (F1<|Rs) 11 [16] R Y51 bY R (bK.stp<|T6 aT aU P y q z) dd.src (c9 R) ed R λa5 a1 _ bj aV _=>⟨((T3 q z aV).cl R),Je3 R U53 R Z51<|Jt1<|Jz3 bj 9 (off:=1) (vc:=[.slice a5 bg.length a1]) (cs':=[.slice au aK.length ac,.slice a5 bg.length a1]) R Z51 R Fct R λ_ bt de=>Tv<|Jo<|Jz<|Jp<|Jg3 R ?_⟩⟩⟩)
 have d1:FW .i64 (n+1)=n+1:=wr1 dN (Jn2 aE) dK
 rw[d1]
 exact have aE:=Jn2 aE;Ou h ba (λba=>Ja2 ⟨bj,n+1,(aK,bg),au,ac,a5,a1,R,(T9 bs aT aU P y q z aV bt).wk R,(c8.stp<|T6 P y q z aV bt),Fct,de,by omega,by omega,ba⟩ R)
 rintro _ _ ⟨cp,k,af,al,ar,Y,rfl,_,c3,c4,c5,rfl⟩
 exact have h:=yI dG;Jz (Jp<|Jg3 R<|wr2 bT aB bJ.len_le ▸ (Ou h a9 (λa9=>Ja2 ⟨cp,p+1,(k.1,k.2),af,al,ar,Y,R,Fct,c3,c4,c5,nxz bT,nxm aB,a9⟩ R)))
 rintro _ _ ⟨co,u,aq,W,av,ak,rfl,aS,_,_,c2,rfl⟩
 refine have h:=yI dF;Jp (Jj3<|Jc4 co Pair.ep120 12 R Y58 cQ R λcP cX cf aM Q df=>Tv<|Jb 1 R<|Jq<|Jf3 R<|Ob h λb2 dT dH=>Jt3 [4,9] (λd e a=>∃b,∃aG:VP,∃ag ai,e=(15,.slice ag aG.length ai)::d/\Stp [12,15,18,19] aM cf b a/\Oc Pair.ep120 120 b a 12 ag ai aG/\b2=FX aG) (Jv<|Ju3 [3,4,9] (λc d e a=>∃b v,∃K:VP,∃an ah,e=(15,.slice an K.length ah)::(16,vi v)::d/\Stp [12,15,18,19] aM cf b a/\Oc Pair.ep120 120 b a 12 an ah K/\0<=v/\FV ((p1.Pairs.length:Int)-v)=c/\cntM (gu p1) c v K=some b2) ⟨_,_,⟨aM,0,([]:VP),cP,cX,R,Jo3,df,(by decide),(by simp),dT⟩,(KM R)⟩ ?_) ?_)
 rintro c _ _ ⟨aN,v,K,an,ah,rfl,aX,dg,bV,aC,h⟩
 rcases c with _|c
 exact Jq<|Jl3 1 R<|Je3 R U60 R Z58<|Jc3 R I58 ((aA.stp<|T7 S T U V aS Q aX).ld 1 R R)<|Js3 R U58 R R<|Jb 1 R<|Jx2 R (dcf aC)<|Jc1<|Jt<|Jt<|Jb1<|Oh h<|Jw1 _ ⟨aN,K,an,ah,R,Fct,dg,R⟩<|KM R
 refine Ob h λeH h bb=>have dM:=dct aC;Jq (Jl3 1 R<|Je3 R U60 R Z58 (have bM:=aA.stp (T7 S T U V aS Q aX);Jc3 R I58 (bM.ld 1 R R) (Js3 R U58 R R<|Jb 1 R<|Jw2 R dM<|Js<|Jp<|Jq<|Jv<|Xn aN [0,3] [2,5,11,26,32,6,14,17,18,27,35,38,39,22,43,47,49,52,56] λ_ bu=>Jn 1 R<|Je3 R U60 R Z58<|Jn 1 R<|Je3 R U60 R Z58<|Jn 1 R (have bN:=bM.stp bu;Jg R (Jd2 I58 R R<|hvC (bN.ld 1 R R) R) (Ob h λ_ b0 h=>Jd3 R a7 b0 U58 Z120<|Je3 R U120 R Z30 ?_)))))
 have a8:=a7.stp (T9 aW S T U V aS Q aX bu)
 obtain⟨_,dY,dP⟩:=(a8).gSt b0
 obtain⟨ek,eK,el,eL,rfl,ez,eA⟩:=Pair.un dY
 refine Jg R (Jd2 I30 R R<|hvC (λa be=>dP a be 0 _ R) R)<|Jg R (Jd2 I58 R R<|hvC (bN.ld 1 R R) R)<|Ob h λ_ bZ h=>Jd3 R a8 bZ U58 Z120<|Je3 R U120 R Z30 ?_
 obtain⟨_,dZ,dQ⟩:=(a8).gSt bZ
 obtain⟨em,eM,en,eN,rfl,eB,eC⟩:=Pair.un dZ
 exact Jg R (Jd2 I30 R R<|hvC (λa be=>dQ a be 1 _ R) R)<|Ob h λaH d3 h=>Jw3 R call151 (oI (J:=Mk aN) Gct d3)<|Ks 15 (bW _) λa0 a2 _ cu bv dh=>⟨(bv.cl R),Ob h λaI d4 h=>Jw3 R call151 (oI (J:=Mk cu) Gct d4) (Ks 18 (bW _) λa3 aZ cg aO bw di=>have aR:=(bv.tr bw);⟨(aR.cl R),Jf R (Jn4 [.slice a0 aH.length a2,.slice a3 aI.length aZ] R)<|Jb4 aO Pair.ep120 19 [15,18] (parts:=[(0,.tmp 109)]) (cells:=[.slice a0 aH.length a2,.slice a3 aI.length aZ]) (xs:=([(⟨aH,aI⟩:Pair)]:VP)) R Y58 cQ R (Jj4 ⟨[.slice a0 aH.length a2],[.slice a3 aI.length aZ],Zl aO cg [15],Zl aO cg [18],R,Zl.sp (l1:=[15]) (l2:=[18]) R,Zl.sr (l1:=[15]) (l2:=[18]),⟨_,_,R,(dh.stp bw)⟩,⟨_,_,R,di⟩⟩) λex ep _ cv bx dj=>⟨((aR.tr bx).cl R),Ob h λeg d5 h=>Jd4 cv Pair.ep120 12 [19] R Y58 cQ R Fct dj.src (c9 R) d5 R λcS cR _ cw cH dk=>⟨((T3 aR bx cH).cl R),Jn 1 R<|Jt1<|Jo<|Jz<|Jp<|Jg3 R<|wr2 bV aC a7.len_le ▸ (Ou h bb (λbb=>Ja2 ⟨cw,v+1,eg,cS,cR,R,Fct,dk,nxz bV,nxm aC,bb⟩ R))⟩⟩⟩)⟩
 rintro _ _ ⟨bl,aG,ag,ai,rfl,cG,_,rfl⟩
 exact have h:=yI dH;Jp (Jj3<|Jg4 tv R (Jh4 (haE (c2.stp<|Q.tr cG).cells) I53 Z53 R)<|Jn 1 R<|Jm4 bl 4 R Z53 R Fct R λ_ _ dl=>Tv<|Jb 2 R<|Ju<|Jb2 (l:=[.cell 4 53,.tmp 5,.tmp 6]) results91 (cc R dl I53 Z53 R<|Jq2 R<|Jq2 R R) R<|Oh h<|⟨(λI=>ren [(10,2),(11,3),(12,4)]<|bl I),aq,W,av,ak,ag,ai,R,Fct,Fct,Fct,Fct⟩)
theorem uW {bo bl bi bk}{p0:Arena}{bh bX}{p1:VP}{p2:Int}(dk:Rd Ri J w 0 bo bl p0.Owner) (dl:Rd Rs J w 0 bi bk p0.Next) (dm:Rd Pair.rp J w 0 bh bX p1){r:Parity×VL×Bool}(h:iv p0 p1 p2=some r):Ret prog 92 [.agg #[.slice bo p0.Owner.length bl,.slice bi p0.Next.length bk],.slice bh p1.length bX,vi p2] w (λdX a=>∃b bM bQ bN bR bO bT bP bV,dX= .tuple #[.agg #[.slice bM r.1.Arena.Owner.length bQ,.slice bN r.1.Arena.Next.length bR,.slice bO r.1.Prio.length bT],.slice bP r.2.1.length bV,.bool r.2.2]/\Ent J w b a/\Oc E6 2 b a 2 bM bQ r.1.Arena.Owner/\Oc (FU E6 2) 30 b a 3 bN bR r.1.Arena.Next/\Oc E6 2 b a 4 bO bT r.1.Prio/\Oc (F1 Place.rp) 149 b a 5 bP bV r.2.1):=by
 refine Jp3 J func92 R ntmps92 R λeu=>Jj3<|Jx3 J 2 R λ_ _ b8 bg db=>Tv<|Jy3 b8 3 R X55 R λ_ _ cl aQ _=>Tv<|Jb 2 R<|Jj3<|Je3 R U53 R Z30 (have aC:=db.stp aQ;Jc3 R I30 (aC.ld 0 R R) (Js3 R U30 R R<|Jb 1 R<|Jq<|Jj3<|Jg4 tv R (Jh4 (haE aC.cells) I53 Z53 R) (Ob h λex dO h=>have bq:=dk.stp (bg.tr aQ);have br:=dl.stp (bg.tr aQ);Jw3 R call152 (qT (J:=Mk cl) (p0:=p0) Gct Gct dO) (Kb λdY a5 T=>Tv<|Jn 2 R<|Ob h λdU h dn=>Jk4 [1,2,3,6,9] 32 dU a5 dY 5 tv ?_ ?_))))
 exact Bk h (λdC h=>Jn 2 R<|Ob h λ_ dP h=>Jw3 R call90 (qU (J:=Mk a5) Gct dP)<|Kb λ_ _ _=>Tv<|Jn 2 R<|Oh h<|Jv1 _ tv ⟨R,_,Fct⟩<|KM R) (λdC h=>Jn 2 R<|Je4 R<|Jn 2 R<|Oh h<|Jl4 tv R)
 rintro _ d1 _ ⟨rfl,a8,X⟩
 refine Jn 1 R<|Ob dn λdV h dp=>Jk4 [1,2,3,6] 39 dV a8 d1 6 tv ?_ ?_
 exact Bk h (λdD h=>Jn 3 R<|Ob h λ_ dQ h=>Jw3 R C25 (dJ (J:=Mk a8) dQ)<|Kb λ_ _ _=>Tv<|Jn 2 R<|Oh h<|Jv1 _ tv ⟨R,_,Fct⟩<|KM R) (λdD h=>Jn 3 R<|Je4 R<|Jn 2 R<|Oh h<|Jl4 tv R)
 rintro _ _ _ ⟨rfl,a9,Y⟩
 refine have h:=dp;Jd ?_
 refine Bk h (λdE h=>Jy R<|Js<|Jp<|Jj3<|Jc4 a9 E6 6 R Y30 bS R λcD cC b0 aK Z dd=>Tv<|Jb 1 R<|Jq<|Jf3 R<|Ob h λbJ dv dq=>Jt3 [1,2,3,6] (λe f a=>∃b,∃k:VI,∃H I,f=(10,.slice H k.length I)::e/\Stp [6] aK b0 b a/\Oc E6 2 b a 6 H I k/\bJ=FX k) (Jv<|Ju3 [1,2,3,6] (λd e f a=>∃b o,∃N:VI,∃an ax,f=(10,.slice an N.length ax)::(11,vi o)::e/\Stp [6] aK b0 b a/\Oc E6 2 b a 6 an ax N/\0<=o/\FV ((p1.length:Int)-o)=d/\cntM fF d o N=some bJ) ⟨_,_,⟨aK,0,([]:VI),cD,cC,R,Jo3,dd,(by decide),(by simp),dv⟩,(KM R)⟩ ?_) ?_) (λdE h=>Jx R<|Jj3<|Jf R (Jn4 [.slice none 0 0,.slice none 0 0,.slice none 0 0] R)<|Jc4 a9 (F1 Place.rp) 6 R Y126 eW R λcu cx _ ba _ _=>Tv<|Jm4 ba 3 R Z55 R Fct R λ_ _ dc=>Tv<|Jb 2 R<|Ju<|Jw<|Jb2 (l:=[.cell 6 55,.tmp 7,.tmp 8]) results92 (cc R dc I55 Z55 R<|Jq2 R<|Jq2 R R) R<|Oh h<|⟨(λM=>ren [(6,5)]<|ba M),none,0,none,0,none,0,cu,cx,R,Fct,FZ,FZ,FZ,Fct⟩)
 rintro d _ _ ⟨bb,o,N,an,ax,rfl,_,df,bD,aD,h⟩
 rcases d with _|d
 exact Jq<|Jl3 2 R<|Js3 R U58 R R<|Jb 1 R<|Jx2 R (dcf aD)<|Jc1<|Jt<|Jt<|Jb1<|Oh h<|Jw1 _ ⟨bb,N,an,ax,R,Fct,df,R⟩<|KM R
 exact Ob h λev h aZ=>Jq<|Jl3 2 R<|Js3 R U58 R R<|Jb 1 R<|Jw2 R (dct aD)<|Js<|Jp<|Jq<|Jv<|Jm3 2 R<|Ji4 bb 7 [o] R Y30 bS R λen er _ cn _ dg=>Tv<|Ob h λd7 dR h=>Jd4 cn E6 6 [] R Y30 bS R Fct (FY (cd _) dg.rdc) bU dR R λcB cK _ co _ dh=>Tv<|Jc 1 R<|Jz<|Jp<|Jg3 R<|wr2 bD aD dm.len_le ▸ (Ou h aZ (λaZ=>Ja2 ⟨co,o+1,d7,cB,cK,R,Fct,dh,nxz bD,nxm aD,aZ⟩ R))
 rintro _ d2 ⟨cm,k,H,I,rfl,aa,de,rfl⟩
 refine have h:=yI dq;Jp (Jl3 2 R<|Jf R (Jn4 [vi p2,.slice H k.length I] R) ?_)
 obtain⟨cp,ab,ec⟩:=eD cm d2 6
 refine Jb4 cp (F1 Place.rp) 7 [] (parts:=[(0,.tmp 55)]) (cells:=[vi p2,.slice H k.length I]) (xs:=([(⟨p2,k⟩:Place)]:VL)) R Y126 eW R (Jj4<|Place.mk_rel (x:=(⟨p2,k⟩:Place))<|Sl.z1<|Sl.st ec de.rdc) λcv cE _ cq ac _=>Tv<|Jb 1 R<|Jj3<|Jf R (Jn4 [.slice none 0 0,.slice none 0 0,.slice none 0 0] R)<|Jy3 cq 8 R X55 R λbp _ Q ad di=>Tv<|Jm4 Q 8 R Z55 R di R λb1 ae dj=>Tv<|Jd<|Jq<|Jf3 R<|Ob h λbK dw bC=>Jt3 [6,13] (λe f a=>∃b,∃i:VL×Int×VI×VV×VI,∃ay ar aj af aA ao al ah,f=(12,.slice ay i.1.length ar)::e/\Stp [7,8,9,10,11,12,16,19,20,21] Q b1 b a/\Oc (F1 Place.rp) 149 b a 7 ay ar i.1/\Oc E6 2 b a 9 aj af i.2.2.1/\Oc (FU E6 2) 30 b a 10 aA ao i.2.2.2.1/\Oc E6 2 b a 11 al ah i.2.2.2.2/\Bc b a 8 bp 55 [.slice aj i.2.2.1.length af,.slice aA i.2.2.2.1.length ao,.slice al i.2.2.2.2.length ah]/\bK=FX i) (Jv<|Ju3 [1,3,6,13] (λd e f a=>∃b,∃c:VL×Int×VI×VV×VI,∃K F av ai L E t u,f=(12,.slice K c.1.length F)::(14,vi c.2.1)::e/\Stp [7,8,9,10,11,12,16,19,20,21] Q b1 b a/\Oc (F1 Place.rp) 149 b a 7 K F c.1/\Oc E6 2 b a 9 av ai c.2.2.1/\Oc (FU E6 2) 30 b a 10 L E c.2.2.2.1/\Oc E6 2 b a 11 t u c.2.2.2.2/\Bc b a 8 bp 55 [.slice av c.2.2.1.length ai,.slice L c.2.2.2.1.length E,.slice t c.2.2.2.2.length u]/\ci (fG p0 p1) d c=some bK) ⟨_,_,⟨Q,((([(⟨p2,k⟩:Place)]:VL):VL),(0:Int),([]:VI),([]:VV),([]:VI)),cv,cE,none,0,none,0,none,0,R,Jo3,Fct,FZ,FZ,FZ,dj,dw⟩,(KM R)⟩ ?_) ?_
 rintro d _ _ ⟨a1,c,K,F,av,ai,L,E,t,u,rfl,v,aV,cN,cO,cP,bs,h⟩
 rcases d with _|d
 cases h
 refine Ob h λ_ h aX=>Jq<|Jl3 2 R<|Js3 R U126 R R<|Jb 1 R ?_
 refine Bk h (λdy h=>Jy R<|Jc1<|Jt<|Jt ?_) (λdy h=>Jx R<|Js<|Jp<|Jq<|Jv<|Jl3 2 R<|Ob h λd8 bF h=>Jd3 R aV.rdc bF U126 Z149 ?_)
 cases h
 exact have h:=aX;Jb1 (Oh h<|Jw1 _ ⟨a1,(c.1,c.2.1,c.2.2.1,c.2.2.2.1,c.2.2.2.2),K,F,av,ai,L,E,t,u,R,Fct,aV,cN,cO,cP,bs,R⟩<|KM R)
 obtain⟨_,dx,dt⟩:=Ow.gZS aV bF
 obtain⟨ed,ew,rfl,et⟩:=Place.un dx
 refine Jg4 tv R (Jh4 (haE dt) I149 Z149 R)<|Jy3 a1 12 R zeroValue149 R λ_ _ a2 q cQ=>Tv<|Jm4 a2 12 R Z149 R cQ R λ_ s aB=>Tv<|Jd<|Jl3 1 R<|Je3 R U149 R Z30<|Jc3 R I30 (aB.ld 1 R R)<|Je3 R U149 R Z2<|Jc3 R I2 (aB.ld 0 R R)<|Ob h λd9 dS h=>Jw3 R call153 (wP (J:=Mk a2) Gct Gct dS)<|Ks 15 (bW _) λem eh _ b3 m cR=>Tv<|Jb 1 R<|Jj3<|Jc4 b3 E6 16 R Y30 bS R λcz cw bZ aH j cS=>Tv<|Jb 1 R<|Jq<|Jf3 R<|Ob h λbL du bA=>Jt3 [1,3,6,13,14,15] (λe f a=>∃b,∃n:VL×VI×Int,∃ap az aU aS,f=(12,.slice ap n.1.length az)::(17,.slice aU n.2.1.length aS)::e/\Stp [7,16,19,20] aH bZ b a/\Oc (F1 Place.rp) 149 b a 7 ap az n.1/\Oc E6 2 b a 16 aU aS n.2.1/\bL=FX n) (Jv<|Ju3 [1,3,6,13,14,15,16] (λd e f a=>∃b,∃g:VL×VI×Int,∃C B aw am,f=(12,.slice C g.1.length B)::(17,.slice aw g.2.1.length am)::(18,vi g.2.2)::e/\Stp [7,16,19,20] aH bZ b a/\Oc (F1 Place.rp) 149 b a 7 C B g.1/\Oc E6 2 b a 16 aw am g.2.1/\ci (ie p0 d8 d9) d g=some bL) ⟨_,_,⟨aH,(c.1,([]:VI),(0:Int)),K,F,cz,cw,R,Jo3,Fct,cS,du⟩,(KM R)⟩ ?_) ?_
 rintro d _ _ ⟨a4,g,C,B,aw,am,rfl,S,bt,cT,h⟩
 rcases d with _|d
 cases h
 refine Ob h λ_ h aY=>Jq<|Jl3 1 R<|Je3 R U53 R Z51 (have bu:=aC.stp (T15 T X Y Z aa ab ac ad ae v q s m j S);Jc3 R I51 (bu.ld 1 R R) (Je3 R U149 R Z2 (have bv:=aB.stp (T3 m j S);Jc3 R I2 (bv.ld 0 R R) (Ob h λey bG h=>Jd3 R br bG U51 Z30 ?_))))
 have aW:=br.stp (T15 T X Y Z aa ab ac ad ae v q s m j S)
 obtain⟨_,_,_,dr⟩:=aW.gSl bG
 refine Jc3 R I30 dr<|Js3 R U30 R R<|Jb 1 R ?_
 refine Bk h (λdz h=>Jy R<|Jc1<|Jt<|Jt ?_) (λdz h=>Jx R<|Js<|Jp<|Jq<|Jv<|Jj3<|Je3 R U53 R Z51<|Jc3 R I51 (bu.ld 1 R R)<|Je3 R U149 R Z2<|Jc3 R I2 (bv.ld 0 R R)<|Ob h λ_ bH h=>Jd3 R aW bH U51 Z30 ?_)
 cases h
 exact have h:=aY;Jb1 (Oh h<|Jw1 _ ⟨a4,(g.1,g.2.1,g.2.2),C,B,aw,am,R,Fct,bt,cT,R⟩<|KM R)
 obtain⟨_,_,bw,ds⟩:=aW.gSl bH
 refine Jc3 R I30 ds<|Jn 1 R<|Ob h λaG bI h=>Jd3 R bw bI U30 Z2<|Jc3 R I2 (bw.gInt bI)<|Jb 1 R<|Jl3 3 R (Ob h λea dT h=>have cU:=cR.stp (j.tr S);Jw3 R call154 (wO (J:=Mk a4) (Jn3 bt.rdc) Gct dT) (Ki λdZ P cr=>Tv<|Jb 1 R<|Jq<|Jf3 R<|Ob h λdW h bB=>Jt3 [1,3,6,13,14,15,16,17,18] (λe f a=>∃b,∃p:VL×Int,∃au ak,f=(12,.slice au p.1.length ak)::(20,vi p.2)::e/\Stp [7,19,20] P dZ b a/\Oc (F1 Place.rp) 149 b a 7 au ak p.1/\dW=FX p) ?_ ?_))
 refine Bk h (λdA h=>Jy R<|Js<|Oh h<|Jw1 _ ⟨P,(g.1,ea),C,B,R,Jo3,Fct,R⟩<|KM R) (λdA h=>Jx R<|Jl3 1 R<|Js3 R U126 R R<|Jb 1 R<|Jq<|Jf3 R ?_)
 refine Bk h (λdB h=>Jy R<|Js<|Jp<|Jm3 2 R<|Jc4 P E6 19 R Y30 bS R λek es _ b5 cs cW=>Tv<|Jn 1 R<|Ob h λaE dF h=>Jd4 b5 E6 19 [] R Y30 bS R cW (FY (cd _) (cU.stp<|cr.tr cs).rdc) bU dF R λbj bm d0 b6 _ cX=>Tv<|Jf R (Jn4 [vi aG,.slice bj aE.length bm] R) ?_) (λdB h=>Jx R<|Jj3<|Jf R (Jn4 [.slice none 0 0,.slice none 0 0,.slice none 0 0] R)<|Jc4 P (F1 Place.rp) 19 R Y126 eW R λcA cy _ a6 _ _=>Tv<|Jm4 a6 3 R Z55 R Fct R λ_ _ cV=>Tv<|Jb 2 R<|Ju<|Jw<|Jr2 ?_)
 obtain⟨b7,_,eb⟩:=eD b6 d0 19
 exact Jb4 b7 (F1 Place.rp) 20 [] (parts:=[(0,.tmp 112)]) (cells:=[vi aG,.slice bj aE.length bm]) (xs:=([(⟨aG,aE⟩:Place)]:VL)) R Y126 eW R (Jj4<|Place.mk_rel (x:=(⟨aG,aE⟩:Place))<|Sl.z1<|Sl.st eb cX.rdc) λei ej _ b9 _ cY=>Tv<|Ob h λd3 dG h=>Jd4 b9 (F1 Place.rp) 7 [20] R Y126 eW R Fct cY.src (c9 R) dG R λcJ cG _ ca _ cZ=>Tv<|Jc 1 R<|Oh h<|Jw1 _ ⟨ca,(d3,((g.1.length:Int):Int)),cJ,cG,R,Fct,cZ,R⟩<|KM R
 cases h
 have h:=bB
 dsimp only[aft]at h
 refine Jw<|Ja1<|Jw<|Jw ?_
 cases h
 refine Ov aY bA (λh=>Ja1<|Jr2<|Jw<|Ja1<|Jw<|Jw ?_)
 cases h
 exact Ov aX bC (λh=>Ja1<|Jr2<|Jw<|Jb2 (l:=[.cell 6 55,.tmp 7,.tmp 8]) results92 (cc R cV I55 Z55 R<|Jq2 R<|Jq2 R R) R<|Oh h<|⟨(λM=>ren [(19,5)]<|a6 M),none,0,none,0,none,0,cA,cy,R,Fct,FZ,FZ,FZ,Fct⟩)
 rintro _ _ ⟨b4,p,au,ak,rfl,_,_,rfl⟩
 refine have h:=yI bB;Jp (Jm3 2 R<|Ji4 b4 19 [p.2] R Y30 bS R λep ee _ cb _ c0=>Tv<|Ob h λd4 dH h=>Jd4 cb E6 16 [] R Y30 bS R Fct (FY (cd _) c0.rdc) bU dH R λcH cI _ ce _ c1=>Tv<|Jc 1 R<|Jz<|Jp<|Jg3 R ?_)
 cases h
 exact Ja2 ⟨ce,(p.1,d4,((FW .i64<|g.2.2+1):Int)),au,ak,cH,cI,R,Fct,Fct,c1,aY⟩ R
 rintro _ _ ⟨a3,n,ap,az,aU,aS,rfl,y,_,_,rfl⟩
 refine have h:=yI bA;Jp (Jq<|Xr a3 [0,2,8,12] (some 13) [2,5,11,17,6,12,18,23,24,28,31,35,38] [40] λ_ z=>Je3 R U55 R Z53<|Je3 R U53 R Z30<|Je3 R U53 R Z30<|Je3 R U149 R Z2<|Jg R (Jd2 I30 R R<|hvC ((bs.stp<|T6 q s m j y z).ld 0 R R) R)<|Jg R (Jd2 I30 R R<|hvC ((aC.stp<|T16 T X Y Z aa ab ac ad ae v q s m j y z).ld 0 R R) R) (have bx:=aB.stp (T4 m j y z);Jg R (Jd2 I2 R R<|hvC (bx.ld 0 R R) R) (Ob h λd5 bE h=>Jd3 R bq bE U30 Z2<|Jg R (Jd2 I2 R R<|hvC ((bq.stp<|T16 T X Y Z aa ab ac ad ae v q s m j y z).gInt bE) R)<|Ji4 a3 17 [d5] R Y30 bS R λeq eo _ cf U c2=>⟨(U.cl R),Ob h λO dI h=>Jd4 cf E6 9 [] R Y30 bS R Fct (FY (cd _) c2.rdc) bU dI R λD G _ aI aL _=>⟨((U.tr aL).cl R),Je3 R U55 R Z53<|Je3 R U53 R Z30<|Jt1<|Jz3 aI 8 (off:=0) (vc:=[.slice D O.length G]) (cs':=[.slice D O.length G,.slice L c.2.2.2.1.length E,.slice t c.2.2.2.2.length u]) R Z30 R Fct R λ_ bd c3=>Tv<|Jd<|Jq<|Xr aI [8] (some 9) [2,5,11,6,13,16,19,23,26] [28] λ_ aM=>Je3 R U55 R Z53<|Je3 R U53 R Z51<|Jn 1 R<|Jg R (Jd2 I51 R R<|hvC ((c3.stp aM).ld 1 R R) R)<|Ob h λb2 dK h=>Jw3 R call155 (uu (J:=Mk aI) Gct dK)<|Ks 20 (bW _) λcL cF _ cg A c4=>⟨(A.cl R),Jb4 cg (FU E6 2) 21 [20] (parts:=[(0,.tmp 136)]) (cells:=[.slice cL b2.length cF]) (xs:=([b2]:VV)) R Y51 bY R (Jj4 ⟨_,_,R,c4⟩) λef eg _ ch V c5=>⟨((A.tr V).cl R),Ob h λaF dL h=>Jd4 ch (FU E6 2) 10 [21] R Y51 bY R Fct c5.src (c9 R) dL R λag aq _ aJ aN _=>⟨((T3 A V aN).cl R),Je3 R U55 R Z53<|Je3 R U53 R Z51<|Jt1<|Jz3 aJ 8 (off:=1) (vc:=[.slice ag aF.length aq]) (cs':=[.slice D O.length G,.slice ag aF.length aq,.slice t c.2.2.2.2.length u]) R Z51 R Fct R λ_ be c6=>Tv<|Jd<|Xr aJ [8,12] (some 11) [2,8,11,17,3,12,18,22,25,28,32] [34] λ_ aO=>Je3 R U55 R Z30<|Jn 1 R<|Je3 R U149 R Z30<|Je3 R U149 R Z2<|Jg R (Jd2 I30 R R<|hvC ((c6.stp aO).ld 2 R R) R) (have bz:=bx.stp (T9 U aL bd aM A V aN be aO);Jg R (Jd2 I30 R R<|hvC (bz.ld 1 R R) R) (Jg R (Jd2 I2 R R<|hvC (bz.ld 0 R R) R)<|Ob h λd6 dM h=>Jw3 R call156 (wQ (J:=Mk aJ) Gct Gct dM)<|Ki λ_ cj W=>⟨(W.cl R),Ji4 cj 24 [d6] R Y30 bS R λel bn _ ck aP c7=>⟨((W.tr aP).cl R),Ob h λa0 dN h=>Jd4 ck E6 11 [] R Y30 bS R Fct (FY (cd _) c7.rdc) bU dN R λaT aR _ a7 bf _=>⟨((T3 W aP bf).cl R),Je3 R U55 R Z30<|Jt1<|Jz3 a7 8 (off:=2) (vc:=[.slice aT a0.length aR]) (cs':=[.slice D O.length G,.slice ag aF.length aq,.slice aT a0.length aR]) R Z30 R Fct R λ_ ct c8=>Tv<|Jo<|Jz<|Jp<|Jg3 R ?_⟩⟩⟩))⟩⟩⟩⟩⟩)))
 cases h
 exact Ja2 ⟨a7,(n.1,((FW .i64<|c.2.1+1):Int),O,aF,a0),ap,az,D,G,ag,aq,aT,aR,R,(v.tr<|q.tr<|s.tr<|m.tr<|j.tr<|y.tr<|z.tr<|U.tr<|aL.tr<|bd.tr<|aM.tr<|A.tr<|V.tr<|aN.tr<|be.tr<|aO.tr<|W.tr<|aP.tr<|bf.tr ct).wk R,Fct,Fct,Fct,Fct,c8,aX⟩ R
 rintro _ _ ⟨bc,i,ay,ar,aj,af,aA,ao,al,ah,rfl,_,_,_,_,_,cM,rfl⟩
 exact have h:=yI bC;Jp (Jj3<|Jg4 tv R (Jh4 (haE cM.cells) I55 Z55 R)<|Jn 1 R<|Jm4 bc 3 R Z55 R Fct R λ_ _ da=>Tv<|Jb 2 R<|Ju<|Jb2 (l:=[.cell 6 55,.tmp 7,.tmp 8]) results92 (cc R da I55 Z55 R<|Jq2 R<|Jq2 R R) R<|Oh h<|⟨(λM=>ren [(9,2),(10,3),(11,4),(7,5)]<|bc M),aj,af,aA,ao,al,ah,ay,ar,R,Fct,Fct,Fct,Fct,Fct⟩)
theorem zq {an ay ao al ar am}{p0:Parity}{ak aL}{p1:VI}(ch:Rd Ri J w 0 an ay p0.Arena.Owner) (ci:Rd Rs J w 0 ao al p0.Arena.Next) (cj:Rd Ri J w 0 ar am p0.Prio) (bo:Rd Ri J w 0 ak aL p1){r:VI×VI}(h:tj p0 p1=some r):Ret prog 93 [.agg #[.slice an p0.Arena.Owner.length ay,.slice ao p0.Arena.Next.length al,.slice ar p0.Prio.length am],.slice ak p1.length aL] w (λbI a=>∃b aH aJ aI aK,bI= .tuple #[.slice aH r.1.length aJ,.slice aI r.2.length aK]/\Ent J w b a/\Oc E6 2 b a 2 aH aJ r.1/\Oc E6 2 b a 3 aI aK r.2):=by
 refine Jp3 J func93 R ntmps93 R λck=>Jj3<|Jx3 J 2 R λ_ _ aV a1 bg=>Tv<|Jb 2 R<|Jj3<|Jc4 aV E6 3 R Y30 bS R λN P _ aX ag _=>Tv<|Jb 1 R<|Jj3<|Jc4 aX E6 4 R Y30 bS R λO Q _ aO aa _=>Tv<|Jb 1 R<|Jq<|Jj3 (have S:=bg.stp (ag.tr aa);Jg4 tv R (Jh4 (haE S.cells) I55 Z55 R) (Ob h λcn bz h=>Jw3 R call157 (uV (J:=Mk aO) (p0:=p0) Gct Gct Gct bz)<|Kb λbK X M=>Tv<|Jn 2 R<|Ob h λbH h br=>Jk4 [1,2,6,7] 25 bH X bK 7 tv ?_ ?_))
 exact Bk h (λbw h=>Jn 1 R<|Je3 R U55 R Z30<|Jc3 R I30 ((S.stp M).ld 2 R R)<|Js3 R U30 R R<|Ob h λ_ bA h=>Jw3 R call148 (qb (J:=Mk X) Gct bA)<|Kb λ_ _ _=>Tv<|Jn 2 R<|Oh h<|Jv1 _ tv ⟨R,_,Fct⟩<|KM R) (λbw h=>Jn 2 R<|Je4 R<|Jn 1 R<|Je4 R<|Jn 2 R<|Oh h<|Jl4 tv R)
 rintro _ _ _ ⟨rfl,Y,ac⟩
 refine have h:=br;Jd ?_
 refine Bk h (λbx h=>Jy R<|Js<|Jp<|Jj3 (have aq:=S.stp (M.tr ac);Jg4 tv R (Jh4 (haE aq.cells) I55 Z55 R) (Ob h λU bB h=>Jw3 R call158 (A0 (J:=λg=>mp [] 1<|Y g) (p0:=p0) (Jm2 Fct (mp [] 1) R R) (Jm2 Fct (mp [] 1) R R) (Jm2 Fct (mp [] 1) R R) bB) ?_))) (λbx h=>Jx R<|Jf3 R<|Ju<|Jw<|Jb2 (l:=[.tmp 4,.tmp 5]) results93 (Jq2 R<|Jq2 R R) R<|Oh h<|⟨(λg=>ren [(3,2),(4,3)]<|Y g),N,P,O,Q,R,Fct,Fct,Fct⟩)
 rintro _ _ ⟨_,b7,b8,b5,b0,b6,bT,b2,b4,b3,bY,rfl,a6,bh,bi,bj,bk,bl⟩
 refine Im0 a6 7 R (λaW ad aE V=>Tv<|have ca:=bh.mx V;have cb:=bi.mx V;have cc:=bj.mx V;have ce:=bk.mx (cF (bW _) _) aE R (R:7+5=12);have cf:=bl.mx (bW _) aE R (R:7+6=13);Jy3 aW 14 R X177 R λ_ _ Z ae bm=>Tv<|Jm4 Z 14 R Z177 R bm R λ_ af au=>Tv<|Jd<|Jj3<|Je3 R U55 R Z30<|Jc3 R I30 ((aq.stp<|T3 ad ae af).ld 2 R R)<|Js3 R U30 R R<|Jn 1 R (Ob h λbL bC h=>have i:=bo.stp (T8 a1 ag aa M ac ad ae af);Jw3 R call159 (yt (J:=Mk Z) Gct bC) (Ks 17 dB λbX bP aN K x bn=>Tv<|have cg:=bn;Jb 1 R (Jq<|Jf3 R<|Ob h λaF bt av=>Jt3 [1,6,7,8,9] (λf d a=>∃b,d=f/\Stp [] K aN b a/\aF=FX ()) (Jv<|Ju3 [1,6,7,8,9] (λc f d a=>∃b n,d=(10,vi n)::f/\Stp [] K aN b a/\0<=n/\FV ((p1.length:Int)-n)=c/\cntM (nF p1 U bL) c n ()=some aF) ⟨_,_,⟨K,0,R,Jo3,(by decide),(by simp),bt⟩,(KM R)⟩ ?_) ?_))))
 rintro c _ _ ⟨L,n,rfl,ai,ax,H,h⟩
 rcases c with _|c
 exact Jq<|Jl3 2 R<|Js3 R U30 R R<|Jb 1 R<|Jx2 R (dcf H)<|Jc1<|Jt<|Jt<|Jb1<|Oh h<|Jw1 _ ⟨L,R,Fct,R⟩<|KM R
 refine Ob h λcm h j=>Jq<|Jl3 2 R<|Js3 R U30 R R<|Jb 1 R<|Jw2 R (dct H)<|Js<|Jp<|Jq<|Jv<|Jq<|Xn L [0,14] [5,8,11,14,0,15,19,23] λ_ aj=>Jn 3 R<|Ob h λ_ az h=>Jd3 R i az U30 Z2<|Jg R (Jh4 (haC (au.stp<|T3 x ai aj).cells R) I177 Z177 R)<|Jg R (Jd2 I2 R R<|hvC ((i.stp<|T3 x ai aj).gInt az) R)<|Ob h λco bD h=>Jw3 R call160 (pS (J:=Mk L) (p0:=U) Gct Gct Gct Gct Gct Gct bD)<|Ki λ_ W aZ=>⟨(aZ.cl R),Jn 1 R<|Jt1<|Jd ?_⟩
 exact Bk h (λbu h=>Jy R<|Js<|Jz<|Jp<|Jg3 R<|wr2 ax H i.len_le ▸ (Ou h j (λj=>Ja2 ⟨W,n+1,R,Fct,nxz ax,nxm H,j⟩ R))) (λbu h=>Jx R<|Jf3 R<|Ju<|Ja1<|Jw<|Jw<|Ou h j (λj=>Ov j av (λh=>Ja1<|Jr2<|Jw<|Jb2 (l:=[.tmp 4,.tmp 5]) results93 (Jq2 R<|Jq2 R R) R<|Oh h<|⟨(λg=>ren [(3,2),(4,3)]<|W g),N,P,O,Q,R,Fct,Fct,Fct⟩)))
 rintro _ _ ⟨aY,rfl,ah,rfl⟩
 refine have h:=yI av;Jp (Jj3<|Jg4 tv R (Jh4 (haE (au.stp<|x.tr ah).cells) I177 Z177 R)<|Jn 1 R<|Ob h λbM bE h=>Jw3 R call161 (zy _ (J:=Mk aY) (p0:=U) Gct Gct Gct Gct Gct Gct bE) (Ks 20 dB λbZ b1 aM I a0 a7=>Tv<|have ap:=a7;Jb 1 R (Jq<|Jf3 R<|Ob h λaG bs bp=>Jx1 (λd a=>∃b,∃m:VI×VI,∃B C F y,d=[(6,.slice B m.1.length C),(7,.slice F m.2.length y)]/\Stp [3,4] I aM b a/\Oc E6 2 b a 3 B C m.1/\Oc E6 2 b a 4 F y m.2/\aG=FX m) (Jv<|Ju3 [1,11] (λc f d a=>∃b o,∃e:VI×VI,∃s p q t,d=(6,.slice s e.1.length p)::(7,.slice q e.2.length t)::(12,vi o)::f/\Stp [3,4] I aM b a/\Oc E6 2 b a 3 s p e.1/\Oc E6 2 b a 4 q t e.2/\0<=o/\FV ((p1.length:Int)-o)=c/\cntM (nG p1 bM) c o e=some aG) ⟨_,_,⟨I,0,(([]:VI),([]:VI)),N,P,O,Q,R,Jo3,Fct,Fct,(by decide),(by simp),bs⟩,(KM R)⟩ ?_) ?_)))
 rintro c _ bJ ⟨v,o,e,s,p,q,t,rfl,ab,a8,a9,aw,G,h⟩
 rcases c with _|c
 exact Jq<|Jl3 2 R<|Js3 R U30 R R<|Jb 1 R<|Jx2 R (dcf G)<|Jc1<|Jt<|Jt<|Jb1<|Oh h<|Jw1 _ ⟨v,(e.1,e.2),s,p,q,t,R,Fct,a8,a9,R⟩<|KM R
 refine Ob h λcl h T=>Jq<|Jl3 2 R<|Js3 R U30 R R<|Jb 1 R<|Jw2 R (dct G)<|Js<|Jp<|Jq<|Jv<|Jl3 3 R<|Ob h λ_ aA h=>Jd3 R i aA U30 Z2 (have u:=i.stp (T4 x ah a0 ab);Jc3 R I2 (u.gInt aA) (Ob h λcp aB h=>Jd3 R ap.rdc aB U179 Z4<|Jc3 R I4 ((ap.stp ab).rdc.gBool aB)<|Jd<|Ob h λk h bq=>Jt3 [1,11,12] (λf d a=>∃b z A E D,d=(6,.slice z k.1.length A)::(7,.slice E k.2.length D)::f/\Stp [3,4] v bJ b a/\Oc E6 2 b a 3 z A k.1/\Oc E6 2 b a 4 E D k.2) ?_ ?_))
 exact Bk h (λbv h=>Jy R<|Jm3 3 R<|Ob h λbO aD h=>Jd3 R u aD U30 Z2<|Jc3 R I2 (u.gInt aD)<|Ji4 v 21 [bO] R Y30 bS R λbQ bR _ aT _ be=>Tv<|Ob h λ_ bG h=>Jd4 aT E6 4 [] R Y30 bS R Fct (FY (cd _) be.rdc) bU bG R λa5 a4 _ aU _ bf=>Tv<|Jc 1 R<|Oh h<|Jw1 _ ⟨aU,s,p,a5,a4,R,Fct,Fct,bf⟩<|KM R) (λbv h=>Jx R<|Jm3 3 R<|Ob h λbN aC h=>Jd3 R u aC U30 Z2<|Jc3 R I2 (u.gInt aC)<|Ji4 v 21 [bN] R Y30 bS R λb9 bV _ aR _ bc=>Tv<|Ob h λ_ bF h=>Jd4 aR E6 3 [] R Y30 bS R Fct (FY (cd _) bc.rdc) bU bF R λa3 a2 _ aS _ bd=>Tv<|Jc 1 R<|Oh h<|Jw1 _ ⟨aS,a3,a2,q,t,R,Fct,bd,Fct⟩<|KM R)
 rintro _ _ ⟨aQ,z,A,E,D,rfl,_,ba,bb⟩
 exact have h:=bq;Jz (Jp<|Jg3 R<|wr2 aw G i.len_le ▸ (Ou h T (λT=>Ja2 ⟨aQ,o+1,(k.1,k.2),z,A,E,D,R,Fct,ba,bb,nxz aw,nxm G,T⟩ R)))
 rintro _ _ ⟨aP,m,B,C,F,y,rfl,_,_,_,rfl⟩
 exact have h:=yI bp;Jp (Jf3 R<|Ju<|Jb2 (l:=[.tmp 4,.tmp 5]) results93 (Jq2 R<|Jq2 R R) R<|Oh h<|⟨(λg=>ren [(3,2),(4,3)]<|aP g),B,C,F,y,R,Fct,Fct,Fct⟩)
end
end Go.Proofs.YtldlmopdhmaceaaGreatDoor
