/- The walks, part 3. By program. -/
import Derived.Test.YtfombamjdkihnaaGreatFns0EI
import Derived.Test.YtfombamjdkihnaaGreatFns1EI
set_option linter.unusedVariables false
set_option linter.unusedSimpArgs false
open Go.Wk.Ep renaming bool → EQ
open Int renaming toNat → ES
open Go.IntKind renaming wrap → ET
open Option.some renaming inj → EU
open Go.Wk.Sl renaming srcP → EV
open Sum renaming inr → EW
namespace Go.Proofs.YtfombamjdkihnaaGreat
open Tryz
open Go Go.Wk Go.Proofs
set_option maxRecDepth 100000
set_option maxHeartbeats 1000000
section
variable {w:World}{J:Col}
theorem tM {j i}{p0:dice}{p1:Int}{n}(av:Rd (Rp.int .u8) J w 0 j i p0.b) (aw:Bc J w 2 n 52 [.slice j p0.b.length i,vi p0.i,.int .u64 p0.h]){r:VI×Int×Int}(h:qL p0 p1=some r):Ret prog 52 [.pointer (some ⟨n,0,none⟩),vi p1] w (λap a=>∃b E F,ap= .slice E r.1.length F/\Ent J w b a/\Oc E6 2 b a 3 E F r.1/\Bc b a 2 n 52 [.slice j p0.b.length i,vi r.2.1,.int .u64 r.2.2]):=by
 refine Jp3 J func52 R ntmps52 R λax=>Jf3 R<|Jj3<|Jc4 J E6 3 R Y31 bG R λP ao G v _ aa=>Tv<|Jb 1 R<|Jq<|Jf3 R (Ob h λ_ ai h=>have ae:=hU ai;Ob h λD ah ad=>Jt3 [0] (λf g a=>∃b,∃e:VI×Int×Int,∃s p,g=(5,.slice s e.1.length p)::f/\Stp [2,3,6] v G b a/\Oc E6 2 b a 3 s p e.1/\Bc b a 2 n 52 [.slice j p0.b.length i,vi e.2.1,.int .u64 e.2.2]/\D=EW e) (Jv<|Ju3 [0,1] (λo f g a=>∃b d,∃c:VI×Int×Int,∃m k,g=(5,.slice m c.1.length k)::(6,vi d)::f/\Stp [2,3,6] v G b a/\Oc E6 2 b a 3 m k c.1/\Bc b a 2 n 52 [.slice j p0.b.length i,vi c.2.1,.int .u64 c.2.2]/\0<=d/\ES (p1-d)=o/\cntM (nF p0) o d c=some D) ⟨_,_,⟨v,0,(([]:VI),p0.i,p0.h),P,ao,R,Jo3,aa,Fct,(by decide),(by simp),ah⟩,(KM R)⟩ ?_) ?_)
 rintro o _ _ ⟨A,d,c,m,k,rfl,N,W,X,af,C,h⟩
 rcases o with _|o
 exact Jq<|Jf3 R<|Jx2 R (dcf C)<|Jc1<|Jt<|Jt<|Jb1<|Oh h<|Jw1 _ ⟨A,(c.1,c.2.1,c.2.2),m,k,R,Fct,W,X,R⟩<|KM R
 refine Ob h λo5 h ag=>have u:=dct C;Jq (Jf3 R<|Jw2 R u<|Js<|Jp<|Jq<|Jv<|Jl3 1 R<|Ob h λH al h=>Jw3 R C11 (ck (J:=λy=>mp [(2,2)] 0<|A y) (p0:=(⟨p0.b,c.2.1,c.2.2⟩:dice)) (Jm2 Fct (mp [(2,2)] 0) R R) Fct al) ?_)
 rintro _ aq ⟨_,rfl,T,Y⟩
 refine Im T 4 R (λx O an=>Tv<|Jb 1 R<|Ob h λz h ac=>Jt3 [0,1,6] (λf g a=>∃b q t,g=(5,.slice q z.length t)::f/\Stp [3] x aq b a/\Oc E6 2 b a 3 q t z) ?_ ?_)
 exact Bk h (λaj h=>Jy R<|Js<|Oh h<|Jw1 _ ⟨x,m,k,R,Jo3,Fct⟩<|KM R) (λaj h=>Jx R<|Jm3 2 R<|Ji4 x 7 [d] R Y31 bG R λau ar _ K _ Z=>Tv<|Ob h λ_ am h=>Jd4 K E6 3 [] R Y31 bG R Fct (EV (bO _) Z.rdc) bJ am R λQ S _ L _ ab=>Tv<|Jc 1 R<|Oh h<|Jw1 _ ⟨L,Q,S,R,Fct,ab⟩<|KM R)
 rintro _ _ ⟨I,q,t,rfl,B,_⟩
 refine have h:=ac;Jz (Jp<|Jg3 R ?_)
 have ak:ET .i64 (d+1)=d+1:=wr1 af (Jn2 u) ae
 rw[ak]
 have u:=Jn2 u
 cases h
 exact Ja2 ⟨(λy=>ren [(6,2)]<|I y),d+1,(z,H.2.1,H.2.2),q,t,R,(Jz2 ((T3 N O B).wk R) [(6,2)] R),Fct,(((Y.mx an R (R:4+2=6)).stp B).map (ren [(6,2)]) R R),by omega,by omega,ag⟩ R
 rintro _ _ ⟨M,e,s,p,rfl,_,U,V,rfl⟩
 exact have h:=yI ad;Jp (Jf3 R<|Ju<|Jb2 (l:=[.tmp 4]) results52 (Jq2 R R) R<|Oh h<|⟨M,s,p,R,Fct,U,V⟩)
theorem yA {b a d c}{p0:Arena}(q:Rd Ri J w 0 b a p0.Owner) (s:Rd Rs J w 0 d c p0.Next){r:VI}(h:sF p0=some r):Ret prog 66 [.agg #[.slice b p0.Owner.length a,.slice d p0.Next.length c]] w (Pvs E6 2 J w r):=by
 exact Jp3 J func66 R ntmps66 R λt=>Jj3<|Jx3 J 2 R λ_ _ g _ n=>Tv<|Jb 1 R<|Jj3<|Jg4 tv R (Jh4 (haE n.cells) I62 Z62 R)<|Ob h λ_ o h=>Jw3 R call114 (rH (J:=Mk g) (p0:=p0) Gct Gct o)<|Ki λ_ e _=>Tv<|Ob h λ_ p h=>Jw3 R call40 (tk (J:=Mk e) p)<|Ks 7 (bI _) λj i _ f _ m=>Tv<|Jb 1 R<|Ju<|Jb2 (l:=[.tmp 2]) results66 (Jq2 R R) R<|Oh h<|⟨(λk=>ren [(7,2)]<|f k),j,i,R,Fct,(m.map (ren [(7,2)]) R R)⟩
theorem mT {aN aL ar aK aM aG aI aH}{p0:solver}{p1:Int}{aE bm}{p2:VB}{aF bn}{av:VB}{aP}(aU:Rd Ri J w 0 aN aL p0.game.Arena.Owner) (aV:Rd Rs J w 0 ar aK p0.game.Arena.Next) (cO:Rd Ri J w 0 aM aG p0.game.Prio) (aW:Rd Rs J w 0 aI aH p0.preds) (aa:Rd Rp.bool J w 0 aE bm p2) (b5:Rd Rp.bool J w 0 aF bn av) (b6:Bc J w 0 aP 150 [.slice aN p0.game.Arena.Owner.length aL,.slice ar p0.game.Arena.Next.length aK,.slice aM p0.game.Prio.length aG,.slice aI p0.preds.length aH]){r:VB}(h:gP p0 p1 p2 av=some r):Ret prog 174 [.pointer (some ⟨aP,0,none⟩),vi p1,.slice aE p2.length bm,.slice aF av.length bn] w (Pvs EQ 4 J w r):=by
 refine Jp3 J func174 R ntmps174 R λcP=>Jf3 R<|Jj3<|Jc4 J EQ 2 R Y129 cI R λcL cN _ bD s b0=>Tv<|Jn 1 R<|Ob h λv cz h=>Jd4 bD EQ 2 [] R Y129 cI R b0 (EV zD<|b5.stp s) bJ cz R λL M _ bH C _=>Tv<|Jb 1 R<|Jl3 1 R<|Js3 R U129 R R<|Ob h λm cA h=>Jl1 (J:=bH) (E:=E6) (z:=(0:Int)) 3 R R R R R R R underlying216 zQ R R R R R (λ_ _ _=>R) (Jv2 cA) λo n _ bt x _=>Tv<|Jb 1 R<|Jl3 1 R<|Ob h λcH cB h=>Jw3 R call112 (iq (J:=Mk bt) Gct cB)<|Ks 6 (bI _) λbP bM bo ag y bY=>Tv<|Jb 1 R<|Jq<|Ob h λbi co b8=>Jt3 [0,9] (λc g a=>∃b,∃u:VI×VB×VI,∃aO aJ,g=c/\Stp [2,3,6] ag bo b a/\Oc E6 2 b a 6 aO aJ u.1/\Oc EQ 4 b a 2 L M u.2.1/\v.length=u.2.1.length/\Oc E6 3 b a 3 o n u.2.2/\m.length=u.2.2.length/\bi=EW u) (Jv<|Ju3 [0,1,2,9,10] (λf c g a=>∃b,∃j:VI×VB×VI,∃N D,g=(11,.slice N j.1.length D)::c/\Stp [2,3,6] ag bo b a/\Oc E6 2 b a 6 N D j.1/\Oc EQ 4 b a 2 L M j.2.1/\v.length=j.2.1.length/\Oc E6 3 b a 3 o n j.2.2/\m.length=j.2.2.length/\bQ (gz p0 p1 p2) f j=some bi) ⟨_,_,⟨ag,(cH,v,m),bP,bM,R,Jo3,bY,Fct,R,Fct,R,co⟩,(KM R)⟩ ?_) ?_
 rintro f _ bp ⟨W,j,N,D,rfl,A,O,aQ,a0,aR,a1,h⟩
 rcases f with _|f
 cases h
 refine Ob h λ_ h aZ=>Jq<|Jl3 1 R<|Js3 R U31 R R<|Jb 1 R ?_
 refine Bk h (λct h=>Jy R<|Jc1<|Jt<|Jt ?_) (λct h=>Jx R<|Js<|Jp<|Jv<|Jl3 1 R<|Ob h λ_ a3 h=>Jd3 R O.rdc a3 U31 Z2<|Jc3 R I2 (O.rdc.gInt a3)<|Jb 1 R<|Jl3 1 R<|Ob h λcJ a4 h=>Jf R (iQ (k1:= .i64) (k2:= .i64) U31 Z2 (.inr ⟨_,R,R⟩) (.inl ⟨R,R⟩) a4 O.rdc.1 R R R)<|Jb 1 R<|Jl3 1 R<|Jf R (cM R R)<|Je3 R U150 R Z32 (have aS:=b6.stp (T5 s C x y A);Jc3 R I32 (aS.ld 3 R R) (Jn 1 R<|Ob h λbq a5 h=>Jd3 R aW a5 U32 Z31 ?_)))
 cases h
 exact have h:=aZ;Jb1 (Oh h<|Jw1 _ ⟨W,(j.1,j.2.1,j.2.2),N,D,R,Fct,O,aQ,a0,aR,a1,R⟩<|KM R)
 obtain⟨_,_,ak,ce⟩:=(aW.stp (T5 s C x y A)).gSl a5
 refine Jc3 R I31 ce<|Js3 R U31 R R<|Jb 1 R (have ac:=ak.len_le;Ob h λbj cp b9=>Jt3 [0,1,2,9,10] (λc g a=>∃b,∃k:VI×VB×VI,∃Y X,g=(11,.slice Y k.1.length X)::c/\Stp [2,3,6] W bp b a/\Oc E6 2 b a 6 Y X k.1/\Oc EQ 4 b a 2 L M k.2.1/\v.length=k.2.1.length/\Oc E6 3 b a 3 o n k.2.2/\m.length=k.2.2.length/\bj=EW k) (Jv<|Ju3 [0,1,2,9,10,39,40] (λf c g a=>∃b e,∃d:VI×VB×VI,∃F E,g=(11,.slice F d.1.length E)::(41,vi e)::c/\Stp [2,3,6] W bp b a/\Oc E6 2 b a 6 F E d.1/\Oc EQ 4 b a 2 L M d.2.1/\v.length=d.2.1.length/\Oc E6 3 b a 3 o n d.2.2/\m.length=d.2.2.length/\0<=e/\ES ((bq.length:Int)-e)=f/\cntM (eI p0 p1 p2 bq) f e d=some bj) ⟨_,_,⟨W,0,(cJ,j.2.1,j.2.2),(subA N D (1:Int).toNat 1),(D-(1:Int).toNat),R,Jo3,(O.sub a4),aQ,a0,aR,a1,(by decide),(by simp),cp⟩,(KM R)⟩ ?_) ?_)
 rintro f _ cF ⟨aC,e,d,F,E,rfl,B,b4,P,p,al,H,ad,aX,h⟩
 rcases f with _|f
 exact Jf3 R<|Jq<|Jx2 R (dcf aX)<|Jc1<|Jt<|Jt<|Jb1<|Oh h<|Jw1 _ ⟨aC,(d.1,d.2.1,d.2.2),F,E,R,Fct,b4,P,p,al,H,R⟩<|KM R
 refine Ob h λcQ h ae=>have i:=dct aX;Jf3 R (Jq<|Jw2 R i<|Js<|Jp<|Jq<|Jv<|Jj3<|Ob h λaz a6 h=>Jd3 R ak a6 U31 Z2<|Jc3 R I2 ((ak.stp B).gInt a6)<|Jb 1 R<|Jq<|Jl3 2 R<|Ob h λcT a7 h=>Jf R (Jg2 P.rdc a7 U129 Z4 R R p R)<|Jc3 R I4 (P.rdc.gBool a7)<|Jn 1 R<|Ob h λcD h ca=>Jk4 [0,1,2,9,10,11,14,39,40,41] 55 cD aC cF 6 tv ?_ ?_)
 exact Bk h (λcu h=>Jn 2 R<|Ob h λ_ a8 h=>Jd3 R aa a8 U129 Z4<|Jc3 R I4 ((aa.stp<|T6 s C x y A B).gBool a8)<|Jn 2 R<|Oh h<|Jl4 tv R) (λcu h=>Jn 3 R<|Je4 R<|Jn 2 R<|Oh h<|Jl4 tv R)
 rintro _ ax _ ⟨rfl,q,K⟩
 refine have h:=ca;Jd ?_
 refine Bk h (λcv h=>Jy R<|Js<|Jp<|Jq<|Jl3 1 R<|Jf R (cM R R)<|Je3 R U150 R Z66<|Je3 R U66 R Z62<|Je3 R U62 R Z31 (have aT:=aS.stp (B.tr K);Jc3 R I31 (aT.ld 0 R R) (Jn 1 R<|Ob h λcU a9 h=>Jd3 R aU a9 U31 Z2<|Jc3 R I2 ((aU.stp<|T7 s C x y A B K).gInt a9)<|Jb 2 R ?_))) (λcv h=>Jx R<|Jc1<|Jt<|Jb1<|Jp<|Jg3 R ?_)
 refine Bk h (λcw h=>Jy R<|Js<|Jp<|Jl3 2 R<|Ob h λcG aq h=>Jf R (Jg2 P.rdc aq U129 Z4 R R p R) (Ob h λU S h=>Jk1 (J:=q) (E:=EQ) 2 [] R R R R R R R R Z4 R R R R Fct S λ_ bA _ _=>Tv<|have ck:v.length=U.length:=p.trans (Ju2 S).2.2.2.symm;Jd (Jm3 2 R<|Ji4 bA 7 [az] R Y31 bG R λbL bN _ bB _ bW=>Tv<|Ob h λay au h=>Jd4 bB E6 6 [] R Y31 bG R Fct (EV (bO _) bW.rdc) bJ au R λai ah _ bC _ bX=>Tv<|Jc 1 R<|Jz<|Jp<|Jg3 R ?_))) (λcw h=>Jx R<|Jq<|Jl3 2 R<|Ob h λcV ba h=>Jf R (Jg2 al.rdc ba U216 Z3 R R H R) (have am:=al.stp K;Jc3 R I3 (am.rdc.gInt ba) (Jb 1 R<|Ob h λbk h cb=>Jt3 [0,1,2,9,10,11,14,39,40,41] (λc g a=>∃b,g=c/\Stp [3] q ax b a/\Oc E6 3 b a 3 o n bk/\m.length=bk.length) ?_ ?_)))
 have t:ET .i64 (e+1)=e+1:=wr1 ad (Jn2 i) ac
 rw[t]
 have i:=Jn2 i
 cases h
 exact Ja2 ⟨bC,e+1,(ay,U,d.2.2),ai,ah,R,Fct,bX,Fct,ck,Fct,H,by omega,by omega,ae⟩ R
 refine Bk h (λcx h=>Jy R<|Js<|Oh h<|Jw1 _ ⟨q,R,Jo3,am,H⟩<|KM R) (λcx h=>Jx R<|Jl3 1 R<|Jf R (cM R R)<|Je3 R U150 R Z66<|Je3 R U66 R Z62<|Je3 R U62 R Z32<|Jc3 R I32 (aT.ld 1 R R)<|Jn 1 R<|Ob h λbr bb h=>Jd3 R aV bb U32 Z31 ?_)
 obtain⟨_,_,an,cf⟩:=(aV.stp (T7 s C x y A B K)).gSl bb
 refine Jc3 R I31 cf<|Js3 R U31 R R<|Jb 1 R<|Ob h λbl cq cc=>Jt3 [0,1,2,9,10,11,14,39,40,41] (λc g a=>∃b,∃af:VI,g=c/\Stp [3] q ax b a/\Oc E6 3 b a 3 o n af/\m.length=af.length/\bl=EW af) (Jv<|Ju3 [0,1,2,9,10,11,14,39,40,41,80,81] (λf c g a=>∃b I,∃T:VI,g=(82,vi I)::c/\Stp [3] q ax b a/\Oc E6 3 b a 3 o n T/\m.length=T.length/\0<=I/\ES ((br.length:Int)-I)=f/\cntM (dz p2 az br) f I T=some bl) ⟨_,_,⟨q,0,d.2.2,R,Jo3,am,H,(by decide),(by simp),cq⟩,(KM R)⟩ ?_) ?_
 rintro f _ cE ⟨V,I,T,rfl,aD,G,Q,aY,ab,h⟩
 rcases f with _|f
 exact Jf3 R<|Jq<|Jx2 R (dcf ab)<|Jc1<|Jt<|Jt<|Jb1<|Oh h<|Jw1 _ ⟨V,T,R,Fct,G,Q,R⟩<|KM R
 refine Ob h λcR h cd=>Jf3 R<|Jq<|Jw2 R (dct ab)<|Js<|Jp<|Jq<|Jv<|Jj3<|Ob h λ_ bc h=>Jd3 R an bc U31 Z2<|Jc3 R I2 ((an.stp aD).gInt bc)<|Jb 1 R<|Jl3 2 R<|Ob h λcW bd h=>Jd3 R aa bd U129 Z4<|Jc3 R I4 ((aa.stp<|T8 s C x y A B K aD).gBool bd)<|Jd<|Ob h λaw h b7=>Jt3 [0,1,2,9,10,11,14,39,40,41,80,81,82] (λc g a=>∃b,g=c/\Stp [3] V cE b a/\Oc E6 3 b a 3 o n aw/\m.length=aw.length) ?_ ?_
 exact Bk h (λcr h=>Jy R<|Js<|Oh h<|Jw1 _ ⟨V,R,Jo3,G,Q⟩<|KM R) (λcr h=>Jx R<|Jm3 2 R<|Ob h λ_ be h=>Jf R (Jg2 G.rdc be U216 Z3 R R Q R)<|Jc3 R I3 (G.rdc.gInt be)<|Jn 1 R<|Ob h λ_ cC h=>Jf R (Jg2 G.rdc cC U216 Z3 R R Q R) (Ob h λcK bg h=>Jk1 (J:=V) (E:=E6) 3 [] R R R R R R R R Z3 R R R R G bg λ_ bv _ bT=>Tv<|have ci:m.length=cK.length:=Q.trans (Ju2 bg).2.2.2.symm;Jo (Oh h<|Jw1 _ ⟨bv,R,Fct,bT,ci⟩<|KM R)))
 rintro _ _ ⟨bu,rfl,_,bS,ch⟩
 refine have h:=b7;Jz (Jp<|Jg3 R<|wr2 aY ab an.len_le ▸ ?_)
 cases h
 exact Ja2 ⟨bu,I+1,aw,R,Fct,bS,ch,nxz aY,nxm ab,cd⟩ R
 rintro _ _ ⟨bs,af,rfl,_,bR,cg,rfl⟩
 exact have h:=yI cc;Oh h (Jw1 _ ⟨bs,R,Fct,bR,cg⟩<|KM R)
 rintro _ _ ⟨bK,rfl,_,Z,ap⟩
 refine Jp<|Jl3 2 R<|Ob cb λ_ bf h=>Jf R (Jg2 Z.rdc bf U216 Z3 R R ap R)<|Jc3 R I3 (Z.rdc.gInt bf)<|Jn 1 R<|Ob h λ_ cy h=>Jf R (Jg2 Z.rdc cy U216 Z3 R R ap R) (Ob h λaA bh h=>Jk1 (J:=bK) (E:=E6) 3 [] R R R R R R R R Z3 R R R R Z bh λ_ aB _ aj=>Tv<|have ao:m.length=aA.length:=ap.trans (Ju2 bh).2.2.2.symm;Jd (Jl3 2 R<|Ob h λcS a2 h=>Jf R (Jg2 aj.rdc a2 U216 Z3 R R ao R)<|Jc3 R I3 (aj.rdc.gInt a2)<|Jb 1 R ?_))
 refine Bk h (λcs h=>Jy R<|Js<|Jp<|Jl3 2 R<|Ob h λcG aq h=>Jf R (Jg2 P.rdc aq U129 Z4 R R p R) (Ob h λU S h=>Jk1 (J:=aB) (E:=EQ) 2 [] R R R R R R R R Z4 R R R R Fct S λ_ bw _ _=>Tv<|have cj:v.length=U.length:=p.trans (Ju2 S).2.2.2.symm;Jd (Jm3 2 R<|Ji4 bw 7 [az] R Y31 bG R λbL bN _ bx _ bU=>Tv<|Ob h λay au h=>Jd4 bx E6 6 [] R Y31 bG R Fct (EV (bO _) bU.rdc) bJ au R λai ah _ bz _ bV=>Tv<|Jc 1 R<|Jz<|Jp<|Jg3 R ?_))) (λcs h=>Jx R<|Jc1<|Jt<|Jb1<|Jp<|Jg3 R ?_)
 have t:ET .i64 (e+1)=e+1:=wr1 ad (Jn2 i) ac
 rw[t]
 have i:=Jn2 i
 cases h
 exact Ja2 ⟨bz,e+1,(ay,U,aA),ai,ah,R,Fct,bV,Fct,cj,Fct,ao,by omega,by omega,ae⟩ R
 have t:ET .i64 (e+1)=e+1:=wr1 ad (Jn2 i) ac
 rw[t]
 have i:=Jn2 i
 cases h
 exact Ja2 ⟨aB,e+1,(d.1,d.2.1,aA),F,E,R,Fct,Fct,Fct,p,aj,ao,by omega,by omega,ae⟩ R
 have t:ET .i64 (e+1)=e+1:=wr1 ad (Jn2 i) ac
 rw[t]
 have i:=Jn2 i
 cases h
 exact Ja2 ⟨q,e+1,(d.1,d.2.1,d.2.2),F,E,R,Fct,Fct,Fct,p,Fct,H,by omega,by omega,ae⟩ R
 rintro _ _ ⟨bF,k,Y,X,rfl,_,b1,b2,cm,b3,cn,rfl⟩
 refine have h:=yI b9;Jz ?_
 cases h
 exact Ja2 ⟨bF,(k.1,k.2.1,k.2.2),Y,X,R,Fct,b1,b2,cm,b3,cn,aZ⟩ R
 rintro _ _ ⟨bE,u,aO,aJ,rfl,_,_,bZ,cl,_,_,rfl⟩
 exact have h:=yI b8;Jp (Jf3 R<|Ju<|Jb2 (l:=[.tmp 8]) results174 (Jq2 R R) R<|Oh h<|⟨bE,L,M,(by simp only[cl]),Fct,bZ⟩)
theorem qx {x u v y}{p0:Arena}(B:Rd Ri J w 0 x u p0.Owner) (m:Rd Rs J w 0 v y p0.Next){r:Bool}(h:mO p0=some r):Ret prog 115 [.agg #[.slice x p0.Owner.length u,.slice v p0.Next.length y]] w (Pvb J w r):=by
 refine Jp3 J func115 R ntmps115 R λax=>Jj3<|Jx3 J 2 R λ_ ap M t k=>Tv<|Jb 1 R<|Jj3<|Je3 R U62 R Z31<|Jc3 R I31 (k.ld 0 R R)<|Js3 R U31 R R<|Jb 1 R<|Jq<|Jl3 3 R<|Ob h λaj h X=>Jk4 [1,3] 14 aj M ap 3 tv ?_ ?_
 exact Bk h (λag h=>Jn 3 R<|Oh h<|Jl4 tv R) (λag h=>Jn 3 R<|Oh h<|Jl4 tv R)
 rintro _ aw _ ⟨rfl,Q,d⟩
 refine Jn 1 R<|Ob X λak h S=>Jk4 [1,3] 21 ak Q aw 6 tv ?_ ?_
 exact Bk h (λaa h=>Je3 R U62 R Z32<|Jc3 R I32 ((k.stp d).ld 1 R R)<|Js3 R U32 R R<|Jn 3 R<|Oh h<|Jl4 tv R) (λaa h=>Jn 1 R<|Je4 R<|Jn 4 R<|Oh h<|Jl4 tv R)
 rintro _ K _ ⟨rfl,c,g⟩
 refine have h:=S;Jd ?_
 refine Bk h (λab h=>Jy R<|Js<|Jp<|Jq<|Jj3<|Je3 R U62 R Z32 (have z:=k.stp (d.tr g);Jc3 R I32 (z.ld 1 R R) (Js3 R U32 R R<|Jb 1 R<|Ob h λI Z C=>Jx1 (λf n=>∃o,f=[]/\Stp [] c K o n/\I=EW ()) (Jv<|Ju3 [1,3,23,24] (λb L f n=>∃o a,f=(25,vi a)::L/\Stp [] c K o n/\0<=a/\ES ((p0.Next.length:Int)-a)=b/\cntM (kb p0) b a ()=some I) ⟨_,_,⟨c,0,R,Jo3,(by decide),(by simp),Z⟩,(KM R)⟩ ?_) ?_))) (λab h=>Jx R<|Jf3 R<|Ju<|Jw<|Jb2 (l:=[.tmp 2]) results115 (Jq2 R R) R<|Oh h<|⟨c,R,Fct⟩)
 rintro b _ aq ⟨p,a,rfl,i,D,e,h⟩
 rcases b with _|b
 exact Jf3 R<|Jq<|Jx2 R (dcf e)<|Jc1<|Jt<|Jt<|Jb1<|Oh h<|Jw1 _ ⟨p,R,Fct,R⟩ KN
 refine Ob h λay h E=>Jf3 R<|Jq<|Jw2 R (dct e)<|Js<|Jp<|Jq<|Jv<|Jl3 1 R<|Ob h λ_ F h=>Jd3 R m F U32 Z31 ?_
 obtain⟨_,_,_,Y⟩:=(m.stp (T4 t d g i)).gSl F
 refine Jc3 R I31 Y<|Jb 2 R<|Jj3<|Je3 R U62 R Z31 (have A:=z.stp i;Jc3 R I31 (A.ld 0 R R) (Jn 1 R<|Ob h λaz G h=>Jd3 R B G U31 Z2 (have j:=B.stp (T4 t d g i);Jc3 R I2 (j.gInt G) (Jn 2 R<|Ob h λal h T=>Jk4 [1,3,5,23,24,25] 43 al p aq 7 tv ?_ ?_))))
 exact Bk h (λac h=>Je3 R U62 R Z31<|Jc3 R I31 (A.ld 0 R R)<|Jn 1 R<|Ob h λ_ H h=>Jd3 R j H U31 Z2<|Jc3 R I2 (j.gInt H)<|Jn 2 R<|Oh h<|Jl4 tv R) (λac h=>Jn 1 R<|Je4 R<|Jn 2 R<|Je4 R<|Jn 2 R<|Oh h<|Jl4 tv R)
 rintro _ ar _ ⟨rfl,O,_⟩
 refine Jn 1 R<|Ob T λam h U=>Jk4 [1,3,5,23,24,25] 48 am O ar 4 tv ?_ ?_
 exact Bk h (λad h=>Jn 1 R<|Js3 R U31 R R<|Jn 2 R<|Oh h<|Jl4 tv R) (λad h=>Jn 4 R<|Oh h<|Jl4 tv R)
 rintro _ au _ ⟨rfl,P,_⟩
 refine Jn 1 R<|Ob U λan h V=>Jk4 [1,3,5,23,24,25] 53 an P au 4 tv ?_ ?_
 exact Bk h (λae h=>Jn 1 R<|Js3 R U31 R R<|Jn 2 R<|Oh h<|Jl4 tv R) (λae h=>Jn 4 R<|Oh h<|Jl4 tv R)
 rintro _ av _ ⟨rfl,q,_⟩
 refine Jn 1 R<|Ob V λao h W=>Jk4 [1,3,23,24,25] 59 ao q av 5 tv ?_ ?_
 exact Bk h (λaf h=>Jn 2 R<|Ob h λ_ ai h=>Jw3 R call157 (lb (J:=Mk q) Gct ai)<|Kb λ_ _ _=>Tv<|Jn 2 R<|Oh h<|Jv1 _ tv ⟨R,_,Fct⟩<|KM R) (λaf h=>Jn 2 R<|Je4 R<|Jn 2 R<|Oh h<|Jl4 tv R)
 rintro _ _ _ ⟨rfl,s,_⟩
 refine have h:=W;Jd ?_
 refine Bk h (λah h=>Jy R<|Js<|Jz<|Jp<|Jg3 R<|wr2 D e m.len_le ▸ ?_) (λah h=>Jx R<|Jf3 R<|Ju<|Ja1<|Jw<|Jw ?_)
 cases h
 exact Ja2 ⟨s,a+1,R,Fct,nxz D,nxm e,E⟩ R
 cases h
 obtain rfl:=EU E
 exact have h:=yL C;Ja1 (Jr2<|Jw<|Jb2 (l:=[.tmp 2]) results115 (Jq2 R R) R<|Oh h<|⟨s,R,Fct⟩)
 rintro _ _ ⟨N,rfl,_,rfl⟩
 exact have h:=yI C;Jp (Jf3 R<|Ju<|Jb2 (l:=[.tmp 2]) results115 (Jq2 R R) R<|Oh h<|⟨N,R,Fct⟩)
theorem fg {n z}{p0:VI}{o p}{c1_0:VL}{f:Int}{q s}(g:Rd Ri J w 0 n z p0) (G:Rd Place.rp J w 0 o p c1_0) (H:Bc J w 0 q 67 [.slice o c1_0.length p]) (I:Bc J w 0 s 2 [vi f]){r:Int}(h:cg p0 c1_0 f=some r):Ret prog 26 [.slice n p0.length z,.func (.func 67) #[] #[.pointer (some ⟨q,0,none⟩),.pointer (some ⟨s,0,none⟩)]] w (Pvi J w r):=by
 refine Jp3 J func26 R ntmps26 R λK=>Jf3 R<|Jq<|Jl3 1 R<|Js3 R U31 R R<|Jb 1 R<|Ob h λy D t=>Jt3 [1] (λd e i=>∃j,e=d/\Stp [] J w j i/\y=EW ()) (Jv<|Ju3 [0,1,7] (λb d e i=>∃j a,e=(8,vi a)::d/\Stp [] J w j i/\0<=a/\ES ((p0.length:Int)-a)=b/\cntM (cw p0 c1_0 f) b a ()=some y) ⟨_,_,⟨J,0,R,Jo3,(by decide),(by simp),D⟩,(KM R)⟩ ?_) ?_
 rintro b _ _ ⟨m,a,rfl,B,u,c,h⟩
 rcases b with _|b
 exact Jf3 R<|Jq<|Jx2 R (dcf c)<|Jc1<|Jt<|Jt<|Jb1<|Oh h<|Jw1 _ ⟨m,R,Fct,R⟩<|KM R
 refine Ob h λL h v=>Jf3 R<|Jq<|Jw2 R (dct c)<|Js<|Jp<|Jq<|Jv<|Jf3 R<|Jl3 3 R<|Ob h λ_ x h=>Jd3 R g x U31 Z2<|Jc3 R I2 ((g.stp B).gInt x)<|Ob h λM F h=>WO.callV R R R R R R R R call67 (rE (J:=Mk m) Gct Fct Fct F) ?_
 rintro _ _ ⟨_,rfl,C⟩
 refine Im C 2 R (λk _ _=>Tv<|Jd ?_)
 refine Bk h (λE h=>Jy R<|Js<|Jz<|Jp<|Jg3 R<|wr2 u c g.len_le ▸ ?_) (λE h=>Jx R<|Jf3 R<|Ju<|Ja1<|Jw<|Jw ?_)
 cases h
 exact Ja2 ⟨k,a+1,R,Fct,nxz u,nxm c,v⟩ R
 cases h
 obtain rfl:=EU v
 exact have h:=yL t;Ja1 (Jr2<|Jw<|Jb2 (l:=[.tmp 4]) V26 (Jq2 R R) R<|Oh h<|⟨k,R,Fct⟩)
 rintro _ _ ⟨A,rfl,_,rfl⟩
 exact have h:=yI t;Jp (Jf3 R<|Ju<|Jb2 (l:=[.tmp 4]) V26 (Jq2 R R) R<|Oh h<|⟨A,R,Fct⟩)
theorem rB {p0:Int}{b m}{c0:VL}{c1:Int}{c2:Int}{c3:Sig}{i:Int}{c d e f g}(j:Rd Place.rp J w 0 b m c0) (p:Bc J w 0 c 67 [.slice b c0.length m]) (q:Bc J w 0 d 2 [vi c1]) (s:Bc J w 0 e 2 [vi c2]) (t:Bc J w 0 f 28 [vi c3.In,vi c3.Out]) (u:Bc J w 0 g 2 [vi i]){r:Bool}(h:jz p0 c0 c1 c2 c3 i=some r):Ret prog 27 [vi p0,.pointer (some ⟨c,0,none⟩),.pointer (some ⟨d,0,none⟩),.pointer (some ⟨e,0,none⟩),.pointer (some ⟨f,0,none⟩),.pointer (some ⟨g,0,none⟩)] w (Pvb J w r):=by
 refine Jp3 J func27 R ntmps27 R λD=>Jf3 R<|Jq<|Xn J [0] [5,0,8,11,12,15,18,21,33,25,29,32,38,41,44] λ_ a=>Jn 1 R<|Jg R (Jd2 isAgg67 R R<|hvC ((p.stp a).ld 0 R R) R)<|Ob h λ_ k h=>Jd3 R j k U67 Z76<|Je3 R U76 R Z2 ?_
 obtain⟨_,x,v⟩:=((j.stp a)).gSt k
 obtain⟨B,E,rfl,C⟩:=Place.un x
 exact Jg R (Jd2 I2 R R<|hvC (λA y=>v A y 0 _ R) R)<|Jg R (Jd2 I2 R R<|hvC ((q.stp a).ld 0 R R) R)<|Jg R (Jd2 I2 R R<|hvC ((s.stp a).ld 0 R R) R)<|Jg R (Jh4 (haC (t.stp a).cells R) I28 Z28 R)<|Jg R (Jd2 I2 R R<|hvC ((u.stp a).ld 0 R R) R)<|Ob h λ_ z h=>Jw3 R C25 (cF (J:=Mk J) (p0:=c3) z)<|Ki λ_ n o=>⟨(o.cl R),Jn 5 R<|Jt1<|Jd<|Ju<|Jb2 (l:=[.tmp 7]) results27 (Jq2 R R) R<|Oh h<|⟨n,R,Fct⟩⟩
theorem ic {p0:Sig}  {r:Bool}(h:jP p0=some r):Ret prog 91 [.agg #[vi p0.In,vi p0.Out]] w (Pvb J w r):=by
 refine Jp3 J func91 R ntmps91 R λn=>Jj3<|Jx3 J 2 R λ_ _ c _ b=>Tv<|Jb 1 R<|Jj3<|Je3 R U28 R Z2<|Jc3 R I2 (b.ld 0 R R)<|Ob h λo i h=>Jw3 R C92 (dB (J:=Mk c) i)<|Kb λm a e=>Tv<|Jn 1 R<|Ob h λk h f=>Jk4 [2] 10 k a m 4 tv ?_ ?_
 exact Bk h (λg h=>Jn 1 R<|Je4 R<|Je4 R<|Jn 1 R<|Oh h<|Jl4 tv R) (λg h=>Je3 R U28 R Z2<|Jc3 R I2 ((b.stp e).ld 1 R R)<|Ob h λ_ j h=>Jw3 R C92 (dB (J:=Mk a) j)<|Kb λ_ _ _=>Tv<|Jn 1 R<|Oh h<|Jv1 _ tv ⟨R,_,Fct⟩<|KM R)
 rintro _ _ _ ⟨rfl,d,_⟩
 exact have h:=f;Jb 1 R (Ju<|Jb2 (l:=[.tmp 2]) results91 (Jq2 R R) R<|Oh h<|⟨d,R,Fct⟩)
theorem wv {o y}{p0:VI}{p1:Int}(i:Rd Ri J w 0 o y p0){r:Bool}(h:pJ p0 p1=some r):Ret prog 206 [.slice o p0.length y,vi p1] w (Pvb J w r):=by
 refine Jp3 J func206 R ntmps206 R λP=>Jf3 R<|Jq<|Jf3 R<|Ob h λx H p=>Jx1 (λg j=>∃k,g=[]/\Stp [] J w k j/\x=EW ()) (Jv<|Ju3 [0,1] (λd A g j=>∃k b,g=(5,vi b)::A/\Stp [] J w k j/\0<=b/\ES ((p0.length:Int)-b)=d/\cntM (kH p0 p1) d b ()=some x) ⟨_,_,⟨J,0,R,Jo3,(by decide),(by simp),H⟩,(KM R)⟩ ?_) ?_
 rintro d _ _ ⟨f,b,rfl,E,q,e,h⟩
 rcases d with _|d
 exact Jq<|Jl3 2 R<|Js3 R U31 R R<|Jb 1 R<|Jx2 R (dcf e)<|Jc1<|Jt<|Jt<|Jb1<|Oh h<|Jw1 _ ⟨f,R,Fct,R⟩ KN
 refine Ob h λQ h s=>Jq<|Jl3 2 R<|Js3 R U31 R R<|Jb 1 R<|Jw2 R (dct e)<|Js<|Jp<|Jq<|Jv<|Jq<|Xn f [0] [2,5,8,14,17,9,19,23,26,29,32,35,38,41,44,50,53,56,59,45,60,65,68,71] λ_ C=>Jn 2 R<|Ob h λ_ t h=>Jd3 R i t U31 Z2<|Jn 2 R (have c:=i.stp (E.tr C);Jg R (Jd2 I2 R R<|hvC (c.gInt t) R) (Ob h λS M h=>Jw3 R C92 (dB (J:=Mk f) M)<|Kb λz m a=>⟨(a.cl R),Jn 2 R<|Ob h λO h F=>Jk4 [0,1,5] 35 O m z 15 (a.cl R) ?_ ?_⟩))
 refine Bk h (λI h=>Jn 3 R<|Ob h λN h G=>Jk4 [0,1,5,20,21,22,23] 34 N m z 11 (a.cl R) ?_ ?_) (λI h=>Jn 10 R<|Jf4 R<|Jf4 R<|Jn 3 R<|Oh h<|Jv1 _ (a.cl R) ⟨R,_,Jo3⟩<|KM R)
 exact Bk h (λK h=>Jn 7 R<|Jf4 R<|Jf4 R<|Jn 2 R<|Oh h<|Jv1 _ (a.cl R) ⟨R,_,Jo3⟩<|KM R) (λK h=>Jn 2 R<|Ob h λ_ u h=>Jd3 R c u U31 Z2<|Jn 3 R<|Ob h λ_ v h=>Jd3 R c v U31 Z2<|Jg R (Jd2 I2 R R<|hvC (c.gInt u) R)<|Jg R (Jd2 I2 R R<|hvC (c.gInt v) R)<|Jn 2 R<|Oh h<|Jv1 _ (a.cl R) ⟨R,_,Jo3⟩<|KM R)
 rintro _ _ _ ⟨rfl,_,D⟩
 exact have h:=G;Jn 1 R (Oh h<|Jv1 _ ((a.tr D).cl R) ⟨R,_,Fct⟩<|KM R)
 rintro _ _ _ ⟨rfl,n,_⟩
 refine have h:=F;Jt1 (Jd ?_)
 refine Bk h (λL h=>Jy R<|Js<|Jz<|Jp<|Jg3 R<|wr2 q e i.len_le ▸ ?_) (λL h=>Jx R<|Jf3 R<|Ju<|Ja1<|Jw<|Jw ?_)
 cases h
 exact Ja2 ⟨n,b+1,R,Fct,nxz q,nxm e,s⟩ R
 cases h
 obtain rfl:=EU s
 exact have h:=yL p;Ja1 (Jr2<|Jw<|Jb2 (l:=[.tmp 4]) results206 (Jq2 R R) R<|Oh h<|⟨n,R,Fct⟩)
 rintro _ _ ⟨B,rfl,_,rfl⟩
 exact have h:=yI p;Jp (Jf3 R<|Ju<|Jb2 (l:=[.tmp 4]) results206 (Jq2 R R) R<|Oh h<|⟨B,R,Fct⟩)
theorem gX {k s}{p0:VI}{p1:Int}(e:Rd Ri J w 0 k s p0){r:Bool}(h:gq p0 p1=some r):Ret prog 93 [.slice k p0.length s,vi p1] w (Pvb J w r):=by
 refine Jp3 J func93 R ntmps93 R λA=>Jf3 R<|Jq<|Jf3 R<|Ob h λq x m=>Jx1 (λd f=>∃g,d=[]/\Stp [] J w g f/\q=EW ()) (Jv<|Ju3 [0,1] (λb t d f=>∃g a,d=(5,vi a)::t/\Stp [] J w g f/\0<=a/\ES ((p0.length:Int)-a)=b/\cntM (jS p0 p1) b a ()=some q) ⟨_,_,⟨J,0,R,Jo3,(by decide),(by simp),x⟩,(KM R)⟩ ?_) ?_
 rintro b _ _ ⟨j,a,rfl,v,n,c,h⟩
 rcases b with _|b
 exact Jq<|Jl3 2 R<|Js3 R U31 R R<|Jb 1 R<|Jx2 R (dcf c)<|Jc1<|Jt<|Jt<|Jb1<|Oh h<|Jw1 _ ⟨j,R,Fct,R⟩ KN
 refine Ob h λB h o=>Jq<|Jl3 2 R<|Js3 R U31 R R<|Jb 1 R<|Jw2 R (dct c)<|Js<|Jp<|Jq<|Jv<|Jl3 2 R<|Ob h λ_ p h=>Jd3 R e p U31 Z2<|Jc3 R I2 ((e.stp v).gInt p)<|Jn 2 R<|Ob h λC z h=>Jw3 R C92 (dB (J:=Mk j) z)<|Kb λ_ i _=>Tv<|Jb 1 R ?_
 refine Bk h (λy h=>Jy R<|Js<|Jz<|Jp<|Jg3 R<|wr2 n c e.len_le ▸ ?_) (λy h=>Jx R<|Jf3 R<|Ju<|Ja1<|Jw<|Jw ?_)
 cases h
 exact Ja2 ⟨i,a+1,R,Fct,nxz n,nxm c,o⟩ R
 cases h
 obtain rfl:=EU o
 exact have h:=yL m;Ja1 (Jr2<|Jw<|Jb2 (l:=[.tmp 4]) results93 (Jq2 R R) R<|Oh h<|⟨i,R,Fct⟩)
 rintro _ _ ⟨u,rfl,_,rfl⟩
 exact have h:=yI m;Jp (Jf3 R<|Ju<|Jb2 (l:=[.tmp 4]) results93 (Jq2 R R) R<|Oh h<|⟨u,R,Fct⟩)
theorem mL {ap aG}{p0:VP}{aq aH}{p1:VV}{p2:Int}(aa:Rd Pair.rp J w 0 ap aG p0) (ab:Rd Rs J w 0 aq aH p1){r:VP}(h:jr p0 p1 p2=some r):Ret prog 48 [.slice ap p0.length aG,.slice aq p1.length aH,vi p2] w (Pvs Pair.ep96 96 J w r):=by
 refine Jp3 J func48 R ntmps48 R λbY=>Jf3 R<|Jj3<|Jc4 J Pair.ep96 2 R Y56 cN R λaW aU aI M al ba=>Tv<|Jb 1 R<|Jq<|Jf3 R<|Ob h λaE bs bi=>Jx1 (λd a=>∃b,∃L:VP,∃G C,d=[(7,.slice G L.length C)]/\Stp [2,3,4,5,6] M aI b a/\Oc Pair.ep96 96 b a 2 G C L/\aE=EW L) (Jv<|Ju3 [0,1,2] (λe i d a=>∃b m,∃y:VP,∃E B,d=(7,.slice E y.length B)::(8,vi m)::i/\Stp [2,3,4,5,6] M aI b a/\Oc Pair.ep96 96 b a 2 E B y/\0<=m/\ES ((p0.length:Int)-m)=e/\cntM (jU p0 p1 p2) e m y=some aE) ⟨_,_,⟨M,0,([]:VP),aW,aU,R,Jo3,ba,(by decide),(by simp),bs⟩,(KM R)⟩ ?_) ?_
 rintro e _ _ ⟨af,m,y,E,B,rfl,ai,a2,ax,I,h⟩
 rcases e with _|e
 exact Jq<|Jl3 2 R<|Js3 R U56 R R<|Jb 1 R<|Jx2 R (dcf I)<|Jc1<|Jt<|Jt<|Jb1<|Oh h<|Jw1 _ ⟨af,y,E,B,R,Fct,a2,R⟩<|KM R
 refine Ob h λo5 h bl=>Jq<|Jl3 2 R<|Js3 R U56 R R<|Jb 1 R<|Jw2 R (dct I)<|Js<|Jp<|Jq<|Jv<|Jj3<|Jf R (Jn4 [.slice none 0 0,.slice none 0 0] R)<|Jy3 af 3 R X96 R λH _ z aj a3=>Tv<|Jm4 z 3 R Z96 R a3 R λaJ ak a4=>Tv<|Jd<|Jq<|Jf3 R<|Ob h λaF br bg=>Jt3 [0,1,2,7,8,9] (λi d a=>∃b,∃c:VI×VI,∃t s p q,d=i/\Stp [3,4,5] z aJ b a/\Oc E6 2 b a 4 t s c.1/\Oc E6 2 b a 5 p q c.2/\Bc b a 3 H 96 [.slice t c.1.length s,.slice p c.2.length q]/\aF=EW c) (Jv<|Ju3 [0,1,2,7,8,9] (λe i d a=>∃b g,∃f:VI×VI,∃v u j k,d=(10,vi g)::i/\Stp [3,4,5] z aJ b a/\Oc E6 2 b a 4 v u f.1/\Oc E6 2 b a 5 j k f.2/\Bc b a 3 H 96 [.slice v f.1.length u,.slice j f.2.length k]/\0<=g/\ES ((p1.length:Int)-g)=e/\cntM (jV p0 p1 p2 m) e g f=some aF) ⟨_,_,⟨z,0,(([]:VI),([]:VI)),none,0,none,0,R,Jo3,Ow.nil,Ow.nil,a4,(by decide),(by simp),br⟩,(KM R)⟩ ?_) ?_
 rintro e _ _ ⟨O,g,f,v,u,j,k,rfl,am,a8,a9,ar,bk,aw,h⟩
 rcases e with _|e
 exact Jq<|Jl3 2 R<|Js3 R U32 R R<|Jb 1 R<|Jx2 R (dcf aw)<|Jc1<|Jt<|Jt<|Jb1<|Oh h<|Jw1 _ ⟨O,(f.1,f.2),v,u,j,k,R,Fct,a8,a9,ar,R⟩<|KM R
 refine Ob h λbZ h bm=>have K:=dct aw;Jq (Jl3 2 R<|Js3 R U32 R R<|Jb 1 R<|Jw2 R K<|Js<|Jp<|Jq<|Jv<|Jq<|Jq<|Xn O [0] [2,5,8,11,17,20,23,29,12,24,32,33,37] λ_ S=>Jn 2 R<|Ob h λ_ ay h=>Jd3 R aa ay U56 Z96<|Je3 R U96 R Z31<|Jn 2 R<|Ob h λ_ az h=>Jd3 R ab az U32 Z31<|Jn 1 R ?_)
 have Y:=aa.stp (T6 al ai aj ak am S)
 obtain⟨_,bt,bp⟩:=(Y).gSt ay
 obtain⟨bQ,b0,bR,b1,rfl,bU,bV⟩:=Pair.un bt
 refine Jg R (Jd2 I31 R R<|hvC (λa ac=>bp a ac 0 _ R) R) ?_
 have Z:=ab.stp (T6 al ai aj ak am S)
 obtain⟨_,_,au,bn⟩:=Z.gSl az
 refine Jg R (Jd2 I31 R R<|hvC bn R)<|Ob h λ_ aA h=>Jd3 R au aA U31 Z2<|Jg R (Jd2 I2 R R<|hvC (au.gInt aA) R)<|Ob h λb4 bz h=>Jw3 R C99 (dP (J:=Mk O) Gct bz)<|Kb λbE P A=>⟨(A.cl R),Jt1<|Jd<|Ob h λx h bh=>Jt3 [0,1,2,7,8,9,10] (λi d a=>∃b n o,d=i/\Stp [3,4] P bE b a/\Oc E6 2 b a 4 n o x/\Bc b a 3 H 96 [.slice n x.length o,.slice j f.2.length k]) ?_ ?_⟩
 exact Bk h (λbv h=>Jy R<|Js<|Oh h<|Jw1 _ ⟨P,v,u,R,Jo3,Fct,Fct⟩<|KM R) (λbv h=>Jx R<|Jk3<|Je3 R U96 R Z31<|Jc3 R I31 ((ar.stp<|S.tr A).ld 0 R R)<|Jn 1 R<|Ji4 P 8 [g] R Y31 bG R λbI bP _ aQ _ bc=>Tv<|Ob h λaL bA h=>Jd4 aQ E6 4 [] R Y31 bG R Fct (EV (bO _) bc.rdc) bJ bA R λU X _ ah _ _=>Tv<|Je3 R U96 R Z31<|Jz3 ah 3 (off:=0) (vc:=[.slice U aL.length X]) (cs':=[.slice U aL.length X,.slice j f.2.length k]) R Z31 R Fct R λ_ _ bd=>Tv<|Jo<|Oh h<|Jw1 _ ⟨ah,U,X,R,Fct,Fct,bd⟩<|KM R)
 rintro _ _ ⟨ag,n,o,rfl,an,_,bb⟩
 refine have h:=bh;Jp (Jq<|Xn ag [0] [2,5,8,11,17,20,23,29,12,24,32,33,37] λ_ T=>Jn 2 R<|Ob h λ_ aB h=>Jd3 R Y aB U56 Z96<|Je3 R U96 R Z31<|Jn 2 R<|Ob h λ_ aC h=>Jd3 R Z aC U32 Z31<|Jn 1 R ?_)
 obtain⟨_,bu,bq⟩:=((Y.stp (T3 A an T))).gSt aB
 obtain⟨bS,b2,bT,b3,rfl,bW,bX⟩:=Pair.un bu
 refine Jg R (Jd2 I31 R R<|hvC (λa ac=>bq a ac 1 _ R) R) ?_
 obtain⟨_,_,av,bo⟩:=(Z.stp (T3 A an T)).gSl aC
 refine Jg R (Jd2 I31 R R<|hvC bo R)<|Ob h λ_ aD h=>Jd3 R av aD U31 Z2<|Jg R (Jd2 I2 R R<|hvC (av.gInt aD) R)<|Ob h λb5 bB h=>Jw3 R C99 (dP (J:=Mk ag) Gct bB)<|Kb λbF Q ao=>⟨(ao.cl R),Jt1<|Jd<|Ob h λad h bj=>Jt3 [0,1,2,7,8,9,10] (λi d a=>∃b F D,d=i/\Stp [3,5] Q bF b a/\Oc E6 2 b a 5 F D ad/\Bc b a 3 H 96 [.slice n x.length o,.slice F ad.length D]) ?_ ?_⟩
 exact Bk h (λbw h=>Jy R<|Js<|Oh h<|Jw1 _ ⟨Q,j,k,R,Jo3,Fct,Fct⟩<|KM R) (λbw h=>Jx R<|Jk3<|Je3 R U96 R Z31<|Jc3 R I31 ((bb.stp<|T.tr ao).ld 1 R R)<|Jn 1 R<|Ji4 Q 10 [g] R Y31 bG R λbM bL _ aN _ aX=>Tv<|Ob h λaM bC h=>Jd4 aN E6 5 [] R Y31 bG R Fct (EV (bO _) aX.rdc) bJ bC R λW V _ ae _ _=>Tv<|Je3 R U96 R Z31<|Jz3 ae 3 (off:=1) (vc:=[.slice W aM.length V]) (cs':=[.slice n x.length o,.slice W aM.length V]) R Z31 R Fct R λ_ _ aZ=>Tv<|Jo<|Oh h<|Jw1 _ ⟨ae,W,V,R,Fct,Fct,aZ⟩<|KM R)
 rintro _ _ ⟨aS,F,D,rfl,_,be,bf⟩
 refine have h:=bj;Jz (Jp<|Jg3 R ?_)
 have bx:ET .i64 (g+1)=g+1:=wr1 bk (Jn2 K) ab.len_le
 rw[bx]
 have K:=Jn2 K
 cases h
 exact Ja2 ⟨aS,g+1,(x,ad),n,o,F,D,R,Fct,Fct,be,bf,by omega,by omega,bm⟩ R
 rintro _ aK ⟨N,c,t,s,p,q,rfl,_,a5,a6,a7,rfl⟩
 refine have h:=yI bg;Jp (Jm3 1 R<|Jg4 tv R (Jh4 (haE a7.cells) I96 Z96 R)<|Jb4 N Pair.ep96 6 [4,5] (parts:=[(0,.tmp 64)]) (cells:=[.slice t c.1.length s,.slice p c.2.length q]) (xs:=([(⟨c.1,c.2⟩:Pair)]:VP)) R Y56 cN R (Jj4 ⟨[.slice t c.1.length s],[.slice p c.2.length q],Zl N aK [4],Zl N aK [5],R,Zl.sp (l1:=[4]) (l2:=[5]) R,Zl.sr (l1:=[4]) (l2:=[5]),⟨_,_,R,a5⟩,⟨_,_,R,a6⟩⟩) λbK bN _ aO _ a0=>Tv<|Ob h λbH bD h=>Jd4 aO Pair.ep96 2 [6] R Y56 cN R Fct a0.src (c7 R) bD R λaT aV _ aP _ a1=>Tv<|Jc 1 R<|Jz<|Jp<|Jg3 R<|wr2 ax I aa.len_le ▸ ?_)
 cases h
 exact Ja2 ⟨aP,m+1,bH,aT,aV,R,Fct,a1,nxz ax,nxm I,bl⟩ R
 rintro _ _ ⟨aR,L,G,C,rfl,_,aY,rfl⟩
 exact have h:=yI bi;Jp (Jf3 R<|Ju<|Jb2 (l:=[.tmp 6]) results48 (Jq2 R R) R<|Oh h<|⟨aR,G,C,R,Fct,aY⟩)
theorem wh {n x}{p0:VL}{p1:Int}{o y}{p2:VI}(i:Rd Place.rp J w 0 n x p0) (T:Rd Ri J w 0 o y p2){r:Int}(h:pF p0 p1 p2=some r):Ret prog 126 [.slice n p0.length x,vi p1,.slice o p2.length y] w (Pvi J w r):=by
 refine Jp3 J func126 R ntmps126 R λU=>Jf3 R<|Jq<|Jf3 R<|Ob h λv F p=>Jx1 (λf a=>∃k,f=[]/\Stp [] J w k a/\v=EW ()) (Jv<|Ju3 [0,1,2] (λc z f a=>∃k b,f=(7,vi b)::z/\Stp [] J w k a/\0<=b/\ES ((p0.length:Int)-b)=c/\cntM (kB p0 p1 p2) c b ()=some v) ⟨_,_,⟨J,0,R,Jo3,(by decide),(by simp),F⟩,(KM R)⟩ ?_) ?_
 rintro c _ N ⟨e,b,rfl,B,q,d,h⟩
 rcases c with _|c
 exact Jq<|Jl3 2 R<|Js3 R U67 R R<|Jb 1 R<|Jx2 R (dcf d)<|Jc1<|Jt<|Jt<|Jb1<|Oh h<|Jw1 _ ⟨e,R,Fct,R⟩ KN
 refine Ob h λV h s=>Jq<|Jl3 2 R<|Js3 R U67 R R<|Jb 1 R<|Jw2 R (dct d)<|Js<|Jp<|Jq<|Jv<|Jl3 2 R<|Ob h λY t h=>Jd3 R i t U67 Z76<|Je3 R U76 R Z2 ?_
 have g:=i.stp B
 obtain⟨_,G,D⟩:=(g).gSt t
 obtain⟨O,W,rfl,Q⟩:=Place.un G
 refine Jc3 R I2 (λa j=>D a j 0 _ R)<|Jn 3 R<|Ob h λM h C=>Jk4 [0,1,2,7] 29 M e N 8 tv ?_ ?_
 refine Bk h (λI h=>Jn 4 R<|Je4 R<|Jn 1 R<|Je4 R<|Jn 1 R<|Oh h<|Jl4 tv R) (λI h=>Jn 2 R<|Ob h λ_ u h=>Jd3 R g u U67 Z76<|Je3 R U76 R Z31 ?_)
 obtain⟨_,H,E⟩:=(g).gSt u
 obtain⟨P,X,rfl,S⟩:=Place.un H
 exact Jc3 R I31 (λa j=>E a j 1 _ R)<|Jn 1 R<|Ob h λ_ L h=>Jw3 R call184 (rQ (J:=Mk e) Gct Gct L)<|Kb λ_ _ _=>Tv<|Jn 1 R<|Oh h<|Jv1 _ tv ⟨R,_,Fct⟩<|KM R
 rintro _ _ _ ⟨rfl,m,_⟩
 refine have h:=C;Jd ?_
 refine Bk h (λK h=>Jy R<|Js<|Jz<|Jp<|Jg3 R<|wr2 q d i.len_le ▸ ?_) (λK h=>Jx R<|Jf3 R<|Ju<|Ja1<|Jw<|Jw ?_)
 cases h
 exact Ja2 ⟨m,b+1,R,Fct,nxz q,nxm d,s⟩ R
 cases h
 obtain rfl:=EU s
 exact have h:=yL p;Ja1 (Jr2<|Jw<|Jb2 (l:=[.tmp 6]) results126 (Jq2 R R) R<|Oh h<|⟨m,R,Fct⟩)
 rintro _ _ ⟨A,rfl,_,rfl⟩
 exact have h:=yI p;Jp (Jf3 R<|Ju<|Jb2 (l:=[.tmp 6]) results126 (Jq2 R R) R<|Oh h<|⟨A,R,Fct⟩)
theorem wj {y K}{p0:VP}{z L}{p1:VI}{p2:Int}(A:Rd Pair.rp J w 0 y K p0) (q:Rd Ri J w 0 z L p1){r:Int}(h:kT p0 p1 p2=some r):Ret prog 128 [.slice y p0.length K,.slice z p1.length L,vi p2] w (Pvi J w r):=by
 refine Jp3 J func128 R ntmps128 R λav=>Jf3 R<|Jf3 R<|Jf3 R<|Jq<|Jf3 R<|Ob h λG X P=>Jx1 (λb a=>∃c,∃j:Int×Int,b=[(7,vi j.1),(8,vi j.2)]/\Stp [] J w c a/\G=EW j) (Jv<|Ju3 [0,1,2] (λg f b a=>∃c e,∃d:Int×Int,b=(7,vi d.1)::(8,vi d.2)::(9,vi e)::f/\Stp [] J w c a/\0<=e/\ES ((p1.length:Int)-e)=g/\cntM (gE p0 p1 p2) g e d=some G) ⟨_,_,⟨J,0,(((-1):Int),((-1):Int)),R,Jo3,(by decide),(by simp),X⟩,(KM R)⟩ ?_) ?_
 rintro g _ _ ⟨t,e,d,rfl,x,B,i,h⟩
 rcases g with _|g
 exact Jq<|Jl3 2 R<|Js3 R U31 R R<|Jb 1 R<|Jx2 R (dcf i)<|Jc1<|Jt<|Jt<|Jb1<|Oh h<|Jw1 _ ⟨t,(d.1,d.2),R,Fct,R⟩<|KM R
 refine Ob h λaw h U=>Jq<|Jl3 2 R<|Js3 R U31 R R<|Jb 1 R<|Jw2 R (dct i)<|Js<|Jp<|Jq<|Jv<|Jq<|Jl3 3 R<|Ob h λ_ C h=>Jd3 R q C U31 Z2 (have o:=q.stp x;Jc3 R I2 (o.gInt C) (Ob h λ_ D h=>Jd3 R A D U56 Z96<|Je3 R U96 R Z31 ?_))
 have p:=A.stp x
 obtain⟨_,Y,V⟩:=(p).gSt D
 obtain⟨al,ax,am,ay,rfl,ap,aq⟩:=Pair.un Y
 refine Jc3 R I31 (λa s=>V a s 0 _ R)<|Jn 1 R<|Ob h λaB af h=>Jw3 R call183 (oX (J:=Mk t) Gct af)<|Kb λai k u=>Tv<|Jd<|Ob h λH h Q=>Jt3 [0,1,2,8,9] (λf b a=>∃c,b=(7,vi H)::f/\Stp [] k ai c a) ?_ ?_
 exact Bk h (λaa h=>Jy R<|Js<|Oh h<|Jw1 _ ⟨k,R,Jo3⟩<|KM R) (λaa h=>Jx R<|Jg3 R<|Oh h<|Jw1 _ ⟨k,R,Jo3⟩<|KM R)
 rintro _ _ ⟨M,rfl,v⟩
 refine Jp<|Jl3 3 R<|Ob Q λ_ E h=>Jd3 R o E U31 Z2<|Jc3 R I2 ((o.stp<|u.tr v).gInt E)<|Ob h λ_ F h=>Jd3 R p F U56 Z96<|Je3 R U96 R Z31 ?_
 obtain⟨_,Z,W⟩:=((p.stp (u.tr v))).gSt F
 obtain⟨an,az,ao,aA,rfl,ar,au⟩:=Pair.un Z
 refine Jc3 R I31 (λa s=>W a s 1 _ R)<|Jn 1 R<|Ob h λaC ag h=>Jw3 R call183 (oX (J:=Mk M) Gct ag)<|Kb λaj m _=>Tv<|Jd<|Ob h λI h S=>Jt3 [0,1,2,7,9] (λf b a=>∃c,b=(8,vi I)::f/\Stp [] m aj c a) ?_ ?_
 exact Bk h (λab h=>Jy R<|Js<|Oh h<|Jw1 _ ⟨m,R,Jo3⟩<|KM R) (λab h=>Jx R<|Jg3 R<|Oh h<|Jw1 _ ⟨m,R,Jo3⟩<|KM R)
 rintro _ _ ⟨N,rfl,_⟩
 refine have h:=S;Jz (Jp<|Jg3 R<|wr2 B i q.len_le ▸ ?_)
 cases h
 exact Ja2 ⟨N,e+1,(H,I),R,Fct,nxz B,nxm i,U⟩ R
 rintro _ ak ⟨O,j,rfl,_,rfl⟩
 refine have h:=yI P;Jp (Jq<|Jv<|Jl3 3 R<|Ob h λah h T=>Jk4 [7,8] 44 ah O ak 3 tv ?_ ?_)
 exact Bk h (λac h=>Jn 3 R<|Oh h<|Jl4 tv R) (λac h=>Jn 3 R<|Oh h<|Jl4 tv R)
 rintro _ _ _ ⟨rfl,n,_⟩
 refine have h:=T;Jb 1 R ?_
 refine Bk h (λad h=>Jy R<|Jf3 R ?_) (λad h=>Jx R<|Jf3 R<|Ju<|Ja1<|Jw<|Jb2 (l:=[.tmp 6]) results128 (Jq2 R R) R<|Oh h<|⟨n,R,Fct⟩)
 exact Bk h (λae h=>Jy R<|Js<|Jz<|Jp<|Jf3 R<|Ju<|Jb2 (l:=[.tmp 6]) results128 (Jq2 R R) R<|Oh h<|⟨n,R,Fct⟩) (λae h=>Jx R<|Jf3 R<|Ju<|Ja1<|Jw<|Jb2 (l:=[.tmp 6]) results128 (Jq2 R R) R<|Oh h<|⟨n,R,Fct⟩)
theorem p7 {u s y v A z x t C B}{p0:l7Game}{q O}{p1:VB}{p2:Int}(ah:Rd Ri J w 0 u s p0.owner) (ai:Rd Ri J w 0 y v p0.prio) (E:Rd Rs J w 0 A z p0.next) (aj:Rd Rs J w 0 x t p0.prev) (ak:Rd Ri J w 0 C B p0.pick) (F:Rd Rp.bool J w 0 q O p1){r:Int}(h:jt p0 p1 p2=some r):Ret prog 204 [.agg #[.slice u p0.owner.length s,.slice y p0.prio.length v,.slice A p0.next.length z,.slice x p0.prev.length t,.slice C p0.pick.length B],.slice q p1.length O,vi p2] w (Pvi J w r):=by
 refine Jp3 J func204 R ntmps204 R λal=>Jj3<|Jx3 J 2 R λ_ P i p T=>Tv<|Jb 1 R<|Jf3 R<|Jq<|Jf3 R<|Ob h λM Z W=>Jx1 (λb c=>∃d,∃o:Int×Int,b=[(7,vi o.1)]/\Stp [] i P d c/\M=EW o) (Jv<|Ju3 [1,2,3] (λe f b c=>∃d,∃a:Int×Int,b=(7,vi a.1)::(8,vi a.2)::f/\Stp [] i P d c/\bQ (jY p0 p1 p2) e a=some M) ⟨_,_,⟨i,((0:Int),(0:Int)),R,Jo3,Z⟩,(KM R)⟩ ?_) ?_
 rintro e _ af ⟨g,a,rfl,k,h⟩
 rcases e with _|e
 cases h
 refine Ob h λ_ h G=>Jq<|Jl3 1 R<|Je3 R U204 R Z32 (have m:=T.stp k;Jc3 R I32 (m.ld 2 R R) (Jn 1 R<|Ob h λam H h=>Jd3 R E H U32 Z31 ?_))
 have n:=E.stp (p.tr k)
 obtain⟨_,_,_,X⟩:=n.gSl H
 refine Jc3 R I31 X<|Js3 R U31 R R<|Jb 1 R ?_
 refine Bk h (λaa h=>Jy R<|Jc1<|Jt<|Jt ?_) (λaa h=>Jx R<|Js<|Jp<|Jq<|Jv<|Jj3<|Je3 R U204 R Z32<|Jc3 R I32 (m.ld 2 R R)<|Jn 1 R<|Ob h λ_ I h=>Jd3 R n I U32 Z31 ?_)
 cases h
 exact have h:=G;Jb1 (Oh h<|Jw1 _ ⟨g,(a.1,a.2),R,Fct,R⟩<|KM R)
 obtain⟨_,_,D,Y⟩:=n.gSl I
 refine Jc3 R I31 Y<|Jn 1 R<|Ob h λ_ K h=>Jd3 R D K U31 Z2<|Jc3 R I2 (D.gInt K)<|Jb 1 R<|Jl3 2 R<|Ob h λan L h=>Jd3 R F L U129 Z4<|Jc3 R I4 ((F.stp<|p.tr k).gBool L)<|Jn 1 R<|Ob h λae h U=>Jk4 [1,2,3,7,8] 37 ae g af 5 tv ?_ ?_
 exact Bk h (λab h=>Je4 R<|Jn 2 R<|Je4 R<|Jn 1 R<|Oh h<|Jl4 tv R) (λab h=>Jg4 tv R (Jh4 (haE m.cells) I204 Z204 R)<|Jn 2 R<|Ob h λ_ ad h=>Jw3 R call221 (se (J:=Mk g) (p0:=p0) Gct Gct Gct Gct Gct ad)<|Kb λ_ _ _=>Tv<|Jn 1 R<|Oh h<|Jv1 _ tv ⟨R,_,Fct⟩<|KM R)
 rintro _ ag _ ⟨rfl,j,_⟩
 refine Jd<|Ob U λN h V=>Jt3 [1,2,3,8] (λf b c=>∃d,b=(7,vi N)::f/\Stp [] j ag d c) ?_ ?_
 exact Bk h (λac h=>Jy R<|Js<|Oh h<|Jw1 _ ⟨j,R,Jo3⟩<|KM R) (λac h=>Jx R<|Jg3 R<|Oh h<|Jw1 _ ⟨j,R,Jo3⟩<|KM R)
 rintro _ _ ⟨Q,rfl,_⟩
 refine have h:=V;Jz (Jp<|Jg3 R ?_)
 cases h
 exact Ja2 ⟨Q,(N,((ET .i64<|a.2+1):Int)),R,Fct,G⟩ R
 rintro _ _ ⟨S,o,rfl,_,rfl⟩
 exact have h:=yI W;Jp (Jf3 R<|Ju<|Jb2 (l:=[.tmp 6]) results204 (Jq2 R R) R<|Oh h<|⟨S,R,Fct⟩)
theorem wH {t x z u y v}{p0:Parity}{s K}{p1:VI}(Y:Rd Ri J w 0 t x p0.Arena.Owner) (B:Rd Rs J w 0 z u p0.Arena.Next) (Z:Rd Ri J w 0 y v p0.Prio) (k:Rd Ri J w 0 s K p1){r:Bool}(h:pT p0 p1=some r):Ret prog 225 [.agg #[.slice t p0.Arena.Owner.length x,.slice z p0.Arena.Next.length u,.slice y p0.Prio.length v],.slice s p1.length K] w (Pvb J w r):=by
 refine Jp3 J func225 R ntmps225 R λaa=>Jj3<|Jx3 J 2 R λ_ L d p A=>Tv<|Jb 1 R<|Jq<|Jl3 1 R<|Js3 R U31 R R<|Je3 R U66 R Z31<|Jc3 R I31 (A.ld 2 R R)<|Js3 R U31 R R<|Jb 1 R ?_
 refine Bk h (λU h=>Jy R<|Js<|Jp<|Jq<|Jf3 R<|Ob h λI Q C=>Jx1 (λf m=>∃n,f=[]/\Stp [] d L n m/\I=EW ()) (Jv<|Ju3 [1,2] (λb M f m=>∃n a,f=(5,vi a)::M/\Stp [] d L n m/\0<=a/\ES ((p1.length:Int)-a)=b/\cntM (kN p0 p1) b a ()=some I) ⟨_,_,⟨d,0,R,Jo3,(by decide),(by simp),Q⟩,(KM R)⟩ ?_) ?_) (λU h=>Jx R<|Jf3 R<|Ju<|Jw<|Jb2 (l:=[.tmp 4]) results225 (Jq2 R R) R<|Oh h<|⟨d,R,Fct⟩)
 rintro b _ _ ⟨c,a,rfl,g,D,e,h⟩
 rcases b with _|b
 exact Jq<|Jl3 2 R<|Js3 R U31 R R<|Jb 1 R<|Jx2 R (dcf e)<|Jc1<|Jt<|Jt<|Jb1<|Oh h<|Jw1 _ ⟨c,R,Fct,R⟩ KN
 refine Ob h λo7 h E=>Jq<|Jl3 2 R<|Js3 R U31 R R<|Jb 1 R<|Jw2 R (dct e)<|Js<|Jp<|Jq<|Jv<|Jq<|Xn c [0,2] [2,5,8,9,14,17,20,23,29,38,41,44,24,32,33,45,49,53,56] λX i=>Jn 2 R<|Ob h λab F h=>Jd3 R k F U31 Z2 (have j:=k.stp (T3 p g i);Jg R (Jd2 I2 R R<|hvC (j.gInt F) R) (Jn 2 R<|Ob h λW h O=>Jk4 [1,2,5] 36 W c X 13 (Cl.refl _ _ _) ?_ ?_))
 refine Bk h (λS h=>Jn 6 R<|Jf4 R<|Jn 1 R<|Jf4 R<|Jf4 R<|Je4 R<|Jn 2 R<|Oh h<|Jv1 _ (Cl.refl _ _ _) ⟨R,_,Jo3⟩<|KM R) (λS h=>Je3 R U66 R Z62<|Je3 R U62 R Z32<|Jn 3 R<|Ob h λ_ H h=>Jd3 R j H U31 Z2<|Jg R (Jd2 I32 R R<|hvC ((A.stp<|g.tr i).ld 1 R R) R)<|Ob h λ_ G h=>Jd3 R B G U32 Z31 ?_)
 obtain⟨_,_,_,P⟩:=(B.stp (T3 p g i)).gSl G
 exact Jg R (Jd2 I31 R R<|hvC P R)<|Jg R (Jd2 I2 R R<|hvC (j.gInt H) R)<|Ob h λ_ V h=>Jw3 R call229 (wF (J:=Mk c) Gct V)<|Kb λ_ _ q=>⟨(q.cl R),Jn 2 R<|Oh h<|Jv1 _ (q.cl R) ⟨R,_,Fct⟩<|KM R⟩
 rintro _ _ _ ⟨rfl,o,_⟩
 refine have h:=O;Jt1 (Jd ?_)
 refine Bk h (λT h=>Jy R<|Js<|Jz<|Jp<|Jg3 R<|wr2 D e k.len_le ▸ ?_) (λT h=>Jx R<|Jf3 R<|Ju<|Ja1<|Jw<|Jw ?_)
 cases h
 exact Ja2 ⟨o,a+1,R,Fct,nxz D,nxm e,E⟩ R
 cases h
 obtain rfl:=EU E
 exact have h:=yL C;Ja1 (Jr2<|Jw<|Jb2 (l:=[.tmp 4]) results225 (Jq2 R R) R<|Oh h<|⟨o,R,Fct⟩)
 rintro _ _ ⟨N,rfl,_,rfl⟩
 exact have h:=yI C;Jp (Jf3 R<|Ju<|Jb2 (l:=[.tmp 4]) results225 (Jq2 R R) R<|Oh h<|⟨N,R,Fct⟩)
theorem ka {p0:Sig}  {r:Int}(h:fb p0=some r):Ret prog 43 [.agg #[vi p0.In,vi p0.Out]] w (Pvi J w r):=by
 exact Jp3 J func43 R ntmps43 R λe=>Jj3<|Jx3 J 2 R λ_ _ a _ c=>Tv<|Jb 1 R<|Jj3<|Je3 R U28 R Z2<|Jc3 R I2 (c.ld 1 R R)<|Ob h λ_ d h=>Jw3 R call94 (eD (J:=Mk a) d)<|Ki λ_ b _=>Tv<|Jb 1 R<|Ju<|Jb2 (l:=[.tmp 2]) results43 (Jq2 R R) R<|Oh h<|⟨b,R,Fct⟩
theorem rf {k t}{p0:VI}{m u}{p1:VI}(e:Rd Ri J w 0 k t p0) (C:Rd Ri J w 0 m u p1){r:Bool}(h:m9 p0 p1=some r):Ret prog 136 [.slice k p0.length t,.slice m p1.length u] w (Pvb J w r):=by
 refine Jp3 J func136 R ntmps136 R λD=>Jf3 R<|Jq<|Jf3 R<|Ob h λs z n=>Jx1 (λd f=>∃g,d=[]/\Stp [] J w g f/\s=EW ()) (Jv<|Ju3 [0,1] (λb v d f=>∃g a,d=(5,vi a)::v/\Stp [] J w g f/\0<=a/\ES ((p0.length:Int)-a)=b/\cntM (kI p0 p1) b a ()=some s) ⟨_,_,⟨J,0,R,Jo3,(by decide),(by simp),z⟩,(KM R)⟩ ?_) ?_
 rintro b _ _ ⟨j,a,rfl,y,o,c,h⟩
 rcases b with _|b
 exact Jq<|Jl3 2 R<|Js3 R U31 R R<|Jb 1 R<|Jx2 R (dcf c)<|Jc1<|Jt<|Jt<|Jb1<|Oh h<|Jw1 _ ⟨j,R,Fct,R⟩ KN
 refine Ob h λE h p=>Jq<|Jl3 2 R<|Js3 R U31 R R<|Jb 1 R<|Jw2 R (dct c)<|Js<|Jp<|Jq<|Jv<|Jl3 3 R<|Ob h λ_ q h=>Jd3 R e q U31 Z2<|Jc3 R I2 ((e.stp y).gInt q)<|Ob h λF B h=>Jw3 R C99 (dP (J:=Mk j) Gct B)<|Kb λ_ i _=>Tv<|Jb 1 R ?_
 refine Bk h (λA h=>Jy R<|Js<|Jz<|Jp<|Jg3 R<|wr2 o c e.len_le ▸ ?_) (λA h=>Jx R<|Jf3 R<|Ju<|Ja1<|Jw<|Jw ?_)
 cases h
 exact Ja2 ⟨i,a+1,R,Fct,nxz o,nxm c,p⟩ R
 cases h
 obtain rfl:=EU p
 exact have h:=yL n;Ja1 (Jr2<|Jw<|Jb2 (l:=[.tmp 4]) results136 (Jq2 R R) R<|Oh h<|⟨i,R,Fct⟩)
 rintro _ _ ⟨x,rfl,_,rfl⟩
 exact have h:=yI n;Jp (Jf3 R<|Ju<|Jb2 (l:=[.tmp 4]) results136 (Jq2 R R) R<|Oh h<|⟨x,R,Fct⟩)
theorem fC (n:Nat):∀{w:World}{J:Col}{p0:Int}{C N}{p1:VV}{s v}{i:VI}{c f}{c0:VB}{D O}{c1:VB}{d x y z}(G:Rd Rs J w 0 C N p1) (ab:Oc E6 2 J w 2 s v i) (H:Oc EQ 4 J w 3 c f c0) (I:Rd Rp.bool J w 0 D O c1) (ac:Bc J w 4 d 31 [.slice s i.length v]) (K:Bc J w 0 x 129 [.slice c c0.length f]) (W:Bc J w 0 y 129 [.slice D c1.length O]) (X:Bc J w 0 z 171 [.func (.func 140) #[] #[.pointer (some ⟨x,0,none⟩),.pointer (some ⟨y,0,none⟩),.pointer (some ⟨z,0,none⟩)]]){r:VI×VB}(h:bN n p0 p1 i c0 c1=some r),Ret prog 140 [vi p0,.slice C p1.length N,.func (.func 141) #[] #[.pointer (some ⟨d,0,none⟩)],.pointer (some ⟨x,0,none⟩),.pointer (some ⟨y,0,none⟩),.pointer (some ⟨z,0,none⟩)] w (λa7 a=>∃b ak al,a7= .tuple #[]/\Ent J w b a/\Oc E6 2 b a 2 ak al r.1/\Oc EQ 4 b a 3 c f r.2/\c0.length=r.2.length/\Bc b a 4 d 31 [.slice ak r.1.length al]):=by
 induction n with
 |zero=>
  intro w J p0 C N p1 s v i c f c0 D O c1 d x y z G ab H I ac K W X r h
  cases h
 |succ n a5=>
  intro w J p0 C N p1 s v i c f c0 D O c1 d x y z G ab H I ac K W X r h
  have h:bX (bN n) p0 p1 i c0 c1=some r:=h
  unfold bX at h
  refine Jp3 J func140 R ntmps140 R λbb=>Jj3<|Jc3 R I129 (K.ld 0 R R)<|Jn 1 R<|Ob h λ_ a2 h=>Jd3 R H.rdc a2 U129 Z4<|Ob h λaq ai h=>Jk1 (J:=J) (E:=EQ) 3 [] R R R R R R R R Z4 R R R R H ai λao P q aI=>Tv<|?_
  have aZ:c0.length=aq.length:=(Ju2 ai).2.2.2.symm
  refine Jd<|Jq<|Jl3 2 R<|Ob h λap ae h=>Jd3 R G ae U32 Z31 ?_
  have aP:=G.stp q
  obtain⟨_,_,V,aW⟩:=aP.gSl ae
  refine Jc3 R I31 aW<|Js3 R U31 R R<|Jb 1 R<|Ob h λan a1 aT=>?_
  clear h
  refine Jt3 [0,2,3,4,5] (λj o a=>∃b,∃l:VI×VB,∃T S,o=j/\Stp [2,3,4,7,8,9] P ao b a/\Oc E6 2 b a 2 T S l.1/\Oc EQ 4 b a 3 c f l.2/\c0.length=l.2.length/\Bc b a 4 d 31 [.slice T l.1.length S]/\an=EW l) ?_ ?_
  refine Jv<|Ju3 [0,1,2,3,4,5,17,18] (λB j o a=>∃b m,∃e:VI×VB,∃u t,o=(19,vi m)::j/\Stp [2,3,4,7,8,9] P ao b a/\Oc E6 2 b a 2 u t e.1/\Oc EQ 4 b a 3 c f e.2/\c0.length=e.2.length/\Bc b a 4 d 31 [.slice u e.1.length t]/\0<=m/\ES ((ap.length:Int)-m)=B/\cntM (bW (bN n) p1 c1 ap) B m e=some an) ⟨_,_,⟨P,0,(i,aq),s,v,R,Jo3,Fct,aI,aZ,Fct,(by decide),(by simp),a1⟩,(KM R)⟩ ?_
  rintro B _ a8 ⟨aa,m,e,u,t,rfl,p,aE,U,A,aF,ad,L,h⟩
  rcases B with _|B
  have M:=h;obtain⟨a6,h⟩:=exq M
  have Y:=dcf L
  refine Jf3 R<|Jq<|Jx2 R Y<|Jc1<|Jt<|Jt ?_
  cases h
  have h:=M
  refine Jb1 ?_
  cases h
  exact Jw1 _ ⟨aa,(e.1,e.2),u,t,R,Fct,aE,U,A,aF,R⟩<|KM R
  obtain⟨a6,h,M⟩:=BI h;unfold bW at h
  have Y:=dct L
  refine Jf3 R<|Jq<|Jw2 R Y<|Js<|Jp<|Jq<|Jv<|Jj3<|Ob h λ_ af h=>Jd3 R V af U31 Z2<|Jc3 R I2 ((V.stp p).gInt af)<|Jb 1 R<|Jj3 ?_
  have aG:=W.stp (q.tr p)
  refine Jc3 R I129 (aG.ld 0 R R)<|Jn 1 R<|Ob h λba ag h=>Jd3 R I ag U129 Z4 ?_
  have aH:=I.stp (q.tr p)
  refine Jc3 R I4 (aH.gBool ag)<|Jn 1 R<|Ob h λam h aU=>Jk4 [0,1,2,3,4,5,10,17,18,19] 33 am aa a8 6 tv ?_ ?_
  revert h
  cases bc:ba
  refine JF λh=>Je4 R<|Jn 2 R<|Je4 R<|Jn 2 R ?_
  cases h
  exact Jl4 tv R
  refine JT λh=>Jc3 R I129 ((K.stp<|q.tr p).ld 0 R R)<|Jn 1 R<|Ob h λ_ ah h=>Jf R (Jg2 U.rdc ah U129 Z4 R R A R)<|Jc3 R I4 (U.rdc.gBool ah)<|Jn 2 R ?_
  cases h
  exact Jl4 tv R
  rintro _ a9 _ ⟨rfl,Q,ax⟩
  have h:=aU
  refine Jd<|Ob h λk h aV=>Jt3 [0,1,2,3,4,5,17,18,19] (λj o a=>∃b E F,o=j/\Stp [2,3,4,7,8,9] Q a9 b a/\Oc E6 2 b a 2 E F k.1/\Oc EQ 4 b a 3 c f k.2/\c0.length=k.2.length/\Bc b a 4 d 31 [.slice E k.1.length F]) ?_ ?_
  revert h
  cases bd:am
  refine JF λh=>Jy R<|Js ?_
  cases h
  exact Jw1 _ ⟨Q,u,t,R,Jo3,Fct,Fct,A,Fct⟩<|KM R
  refine JT λh=>Jx R<|Jk3 ?_
  have aM:=X.stp (T3 q p ax)
  refine Jc3 R isAgg171 (aM.ld 0 R R)<|Jn 3 R<|Ob h λ_ a3 h=>WO.callV R R R R R R R R call140 (a5 (J:=λg=>mp [(2,2),(3,3),(4,4)] 0<|Q g) (Jm2 Fct (mp [(2,2),(3,3),(4,4)] 0) R R) Fct Fct (Jm2 Fct (mp [(2,2),(3,3),(4,4)] 0) R R) Fct (Bc.cast Fct (by simp only[A])) Fct Fct a3) ?_
  rintro _ _ ⟨_,aB,aA,rfl,aC,aN,aO,a0,aQ⟩
  obtain⟨av,_,Z⟩:=Ji aC 5 R
  refine Tv<|Jo ?_
  cases h
  exact Jw1 _ ⟨(λg=>ren [(7,2),(8,3),(9,4)]<|av g),aB,aA,R,Fct,((aN.mx (bI _) Z R (R:5+2=7)).map (ren [(7,2),(8,3),(9,4)]) R R),((aO.mx cQ Z R (R:5+3=8)).map (ren [(7,2),(8,3),(9,4)]) R R),(A.trans a0),((aQ.mx Z R (R:5+4=9)).map (ren [(7,2),(8,3),(9,4)]) R R)⟩<|KM R
  rintro _ _ ⟨au,E,F,rfl,_,aJ,aK,aY,aL⟩
  have h:=aV
  refine Jz<|Jp<|Jg3 R<|wr2 ad L V.len_le ▸ ?_
  cases h
  exact Ja2 ⟨au,m+1,(k.1,k.2),E,F,R,Fct,aJ,aK,aY,aL,nxz ad,nxm L,M⟩ R
  rintro _ _ ⟨ar,l,T,S,rfl,_,_,_,aX,_,rfl⟩
  have h:=yI aT
  refine Jp<|Jm3 2 R<|Ob h λ_ a4 h=>WO.callV R R R R R R R R call141 (tB (J:=λg=>mp [(2,2),(4,3)] 0<|ar g) Fct Fct a4) ?_
  rintro _ _ ⟨_,az,ay,rfl,aD,aR,aS⟩
  obtain⟨aw,_,aj⟩:=Ji aD 5 R
  refine Tv<|Jo<|DN.end0 results140 ?_
  cases h
  exact⟨(λg=>ren [(7,2),(8,4)]<|aw g),az,ay,R,Fct,((aR.mx (bI _) aj R (R:5+2=7)).map (ren [(7,2),(8,4)]) R R),Fct,aX,((aS.mx aj R (R:5+3=8)).map (ren [(7,2),(8,4)]) R R)⟩
theorem qp {p0:Int}{p1:Int}  {r:Bool}(h:iy p0 p1=some r):Ret prog 165 [vi p0,vi p1] w (Pvb J w r):=by
 refine Jp3 J func165 R ntmps165 R λp=>Jf3 R<|Jl3 1 R<|Ob h λq i h=>Jw3 R call200 (kU (J:=Mk J) i)<|Kb λn a _=>Tv<|Jn 1 R<|Ob h λk h e=>Jk4 [0,1,4] 11 k a n 4 tv ?_ ?_
 exact Bk h (λg h=>Jn 1 R<|Je4 R<|Jn 2 R<|Oh h<|Jl4 tv R) (λg h=>Jn 1 R<|Ob h λ_ j h=>Jw3 R call200 (kU (J:=Mk a) j)<|Kb λ_ _ _=>Tv<|Jn 2 R<|Oh h<|Jv1 _ tv ⟨R,_,Fct⟩<|KM R)
 rintro _ o _ ⟨rfl,b,_⟩
 refine Jn 1 R<|Ob e λm h d=>Jk4 [4] 16 m b o 4 tv ?_ ?_
 exact Bk h (λf h=>Jn 4 R<|Oh h<|Jl4 tv R) (λf h=>Jn 4 R<|Oh h<|Jl4 tv R)
 rintro _ _ _ ⟨rfl,c,_⟩
 exact have h:=d;Jb 1 R (Ju<|Jb2 (l:=[.tmp 4]) results165 (Jq2 R R) R<|Oh h<|⟨c,R,Fct⟩)
theorem uL {N ak}{p0:VV}{O al}{p1:VB}{P am}{p2:VI}(V:Rd Rs J w 0 N ak p0) (W:Rd Rp.bool J w 0 O al p1) (bf:Rd Ri J w 0 P am p2){r:VB}(h:lw p0 p1 p2=some r):Ret prog 152 [.slice N p0.length ak,.slice O p1.length al,.slice P p2.length am] w (Pvs EQ 4 J w r):=by
 refine Jp3 J func152 R ntmps152 R λbg=>Jf3 R<|Jl3 1 R<|Js3 R U32 R R<|Ob h λj a1 h=>Jl1 (J:=J) (E:=EQ) (z:=(false:Bool)) 2 R R R R R R R Y129 cI R R R R R (λ_ _ _=>R) (Jv2 a1) λm n _ aq L _=>Tv<|Jb 1 R<|Jl3 1 R<|Ob h λa8 a2 h=>Jw3 R C95 (dv (J:=Mk aq) Gct a2)<|Ks 5 (bI _) λaB az ao E I aK=>Tv<|Jb 1 R<|Jq<|Ob h λai aV aL=>Jt3 [7] (λc e a=>∃b,∃v:VI×VB,∃S Q,e=c/\Stp [2,5] E ao b a/\Oc E6 2 b a 5 S Q v.1/\Oc EQ 4 b a 2 m n v.2/\j.length=v.2.length/\ai=EW v) (Jv<|Ju3 [0,1,7] (λf c e a=>∃b,∃g:VI×VB,∃p k,e=(8,.slice p g.1.length k)::c/\Stp [2,5] E ao b a/\Oc E6 2 b a 5 p k g.1/\Oc EQ 4 b a 2 m n g.2/\j.length=g.2.length/\bQ (jR p0 p1) f g=some ai) ⟨_,_,⟨E,(a8,j),aB,az,R,Jo3,aK,Fct,R,aV⟩,(KM R)⟩ ?_) ?_
 rintro f _ an ⟨x,g,p,k,rfl,K,t,T,Z,h⟩
 rcases f with _|f
 cases h
 refine Ob h λ_ h X=>Jq<|Jl3 1 R<|Js3 R U31 R R<|Jb 1 R ?_
 refine Bk h (λaX h=>Jy R<|Jc1<|Jt<|Jt ?_) (λaX h=>Jx R<|Js<|Jp<|Jv<|Jl3 2 R<|Js3 R U31 R R<|Jn 1 R<|Ob h λa9 aa h=>Jd3 R t.rdc aa U31 Z2<|Jc3 R I2 (t.rdc.gInt aa)<|Jb 1 R<|Jl3 2 R<|Js3 R U31 R R<|Jn 1 R<|Ob h λba ab h=>Jf R (iQ (k1:= .i64) (k2:= .i64) U31 Z2 (.inl ⟨R,R⟩) (.inr ⟨_,R,R⟩) ab t.rdc.1 R R R)<|Jb 1 R<|Jf3 R<|Ob h λaj aW aM=>Jt3 [0,1,7] (λc e a=>∃b,∃i:VI×Int×VB,∃C A,e=(8,.slice C i.1.length A)::c/\Stp [2,5] x an b a/\Oc E6 2 b a 5 C A i.1/\Oc EQ 4 b a 2 m n i.2.2/\j.length=i.2.2.length/\aj=EW i) (Jv<|Ju3 [0,1,7,9] (λf c e a=>∃b,∃d:VI×Int×VB,∃s q,e=(8,.slice s d.1.length q)::(10,vi d.2.1)::c/\Stp [2,5] x an b a/\Oc E6 2 b a 5 s q d.1/\Oc EQ 4 b a 2 m n d.2.2/\j.length=d.2.2.length/\bQ (gV p0 p1 a9) f d=some aj) ⟨_,_,⟨x,(ba,(0:Int),g.2),(subA p k (0:Int).toNat 1),(k-(0:Int).toNat),R,Jo3,(t.sub ab),T,Z,aW⟩,(KM R)⟩ ?_) ?_)
 cases h
 exact have h:=X;Jb1 (Oh h<|Jw1 _ ⟨x,(g.1,g.2),p,k,R,Fct,t,T,Z,R⟩<|KM R)
 rintro f _ a6 ⟨H,d,s,q,rfl,M,aF,D,u,h⟩
 rcases f with _|f
 cases h
 refine Ob h λ_ h Y=>Jq<|Jl3 3 R<|Ob h λbh ac h=>Jd3 R V ac U32 Z31 ?_
 have G:=V.stp (T4 L I K M)
 obtain⟨_,_,_,aP⟩:=G.gSl ac
 refine Jc3 R I31 aP<|Js3 R U31 R R<|Jb 1 R ?_
 refine Bk h (λaY h=>Jy R<|Jc1<|Jt<|Jt ?_) (λaY h=>Jx R<|Js<|Jp<|Jq<|Jv<|Jl3 2 R<|Ob h λ_ ad h=>Jd3 R G ad U32 Z31 ?_)
 cases h
 exact have h:=Y;Jb1 (Oh h<|Jw1 _ ⟨H,(d.1,d.2.1,d.2.2),s,q,R,Fct,aF,D,u,R⟩<|KM R)
 obtain⟨_,_,U,aQ⟩:=G.gSl ad
 refine Jc3 R I31 aQ<|Jn 1 R<|Ob h λbb ae h=>Jd3 R U ae U31 Z2<|Jc3 R I2 (U.gInt ae)<|Jb 1 R<|Jl3 2 R<|Ob h λbi af h=>Jd3 R W af U129 Z4<|Jc3 R I4 ((W.stp<|T4 L I K M).gBool af)<|Jn 1 R<|Ob h λa5 h aN=>Jk4 [0,1,7,8,9,10,11] 57 a5 H a6 6 tv ?_ ?_
 exact Bk h (λaZ h=>Jn 3 R<|Je4 R<|Jn 2 R<|Oh h<|Jl4 tv R) (λaZ h=>Jn 2 R<|Ob h λ_ ag h=>Jf R (Jg2 D.rdc ag U129 Z4 R R u R)<|Jc3 R I4 (D.rdc.gBool ag)<|Jn 2 R<|Oh h<|Jl4 tv R)
 rintro _ a7 _ ⟨rfl,F,_⟩
 refine Jd<|Ob aN λo h aO=>Jt3 [0,1,7,9,10] (λc e a=>∃b y B,e=(8,.slice y o.1.length B)::c/\Stp [2,5] F a7 b a/\Oc E6 2 b a 5 y B o.1/\Oc EQ 4 b a 2 m n o.2/\j.length=o.2.length) ?_ ?_
 exact Bk h (λa0 h=>Jy R<|Js<|Oh h<|Jw1 _ ⟨F,s,q,R,Jo3,Fct,Fct,u⟩<|KM R) (λa0 h=>Jx R<|Jl3 2 R<|Ob h λ_ a3 h=>Jf R (Jg2 D.rdc a3 U129 Z4 R R u R) (Ob h λbc ah h=>Jk1 (J:=F) (E:=EQ) 2 [] R R R R R R R R Z4 R R R R Fct ah λ_ av _ _=>Tv<|have aU:j.length=bc.length:=u.trans (Ju2 ah).2.2.2.symm;Jd (Jm3 2 R<|Ji4 av 6 [bb] R Y31 bG R λbd be _ aw _ aI=>Tv<|Ob h λ_ a4 h=>Jd4 aw E6 5 [] R Y31 bG R Fct (EV (bO _) aI.rdc) bJ a4 R λaA ay _ ax _ aJ=>Tv<|Jc 1 R<|Oh h<|Jw1 _ ⟨ax,aA,ay,R,Fct,aJ,Fct,aU⟩<|KM R)))
 rintro _ _ ⟨au,y,B,rfl,_,aG,aH,aT⟩
 refine have h:=aO;Jz (Jp<|Jg3 R ?_)
 cases h
 exact Ja2 ⟨au,(o.1,((ET .i64<|d.2.1+1):Int),o.2),y,B,R,Fct,aG,aH,aT,Y⟩ R
 rintro _ _ ⟨ar,i,C,A,rfl,_,aD,aE,aS,rfl⟩
 refine have h:=yI aM;Jz ?_
 cases h
 exact Ja2 ⟨ar,(i.1,i.2.2),C,A,R,Fct,aD,aE,aS,X⟩ R
 rintro _ _ ⟨ap,v,S,Q,rfl,_,_,aC,aR,rfl⟩
 exact have h:=yI aL;Jp (Jf3 R<|Ju<|Jb2 (l:=[.tmp 6]) results152 (Jq2 R R) R<|Oh h<|⟨ap,m,n,(by simp only[aR]),Fct,aC⟩)
end
end Go.Proofs.YtfombamjdkihnaaGreat
