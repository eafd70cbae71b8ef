/- The walks, part 6. By program. -/
import Derived.Test.YtldlmopdhmaceaaGreatDoorFns2BE
import Derived.Test.YtldlmopdhmaceaaGreatDoorFns3BE
set_option linter.unusedVariables false
set_option linter.unusedSimpArgs false
open Go.Wk.Ep renaming bool → FT, own → FU
open Int renaming toNat → FV
open Go.IntKind renaming wrap → FW
open Sum renaming inr → FX
namespace Go.Proofs.YtldlmopdhmaceaaGreatDoor
open Tryz
open Go Go.Wk Go.Proofs
set_option maxRecDepth 100000
set_option maxHeartbeats 1000000
section
variable {w:World}{J:Col}
theorem qr {c d a b}{p0:Clause}{c0:Sig}{e}(n:Rd Ri J w 0 c d p0.A) (o:Rd Ri J w 0 a b p0.B) (k:Bc J w 0 e 39 [vi c0.In,vi c0.Out]){r:Bool}(h:fR p0 c0=some r):Ret prog 171 [.agg #[vi p0.Kind,.slice c p0.A.length d,.slice a p0.B.length b],.pointer (some ⟨e,0,none⟩)] w (Pvb J w r):=by
 exact Jp3 J func171 R ntmps171 R λp=>Jj3<|Jx3 J 2 R λ_ _ g i j=>Tv<|Jb 1 R<|Jj3<|Jg4 tv R (Jh4 (haE (k.stp i).cells) I39 Z39 R)<|Jg4 tv R (Jh4 (haE j.cells) I32 Z32 R)<|Ob h λ_ m h=>Jw3 R call55 (mq (J:=Mk g) (p0:=c0) (p1:=p0) Gct Gct m)<|Kb λ_ f _=>Tv<|Jb 2 R<|Ju<|Jb2 (l:=[.tmp 3]) results171 (Jq2 R R) R<|Oh h<|⟨f,R,Fct⟩
theorem sJ {v G}{p0:VP}{x H}{p1:VI}{p2:Int}(y:Rd Pair.rp J w 0 v G p0) (p:Rd Ri J w 0 x H p1){r:Int}(h:kx p0 p1 p2=some r):Ret prog 183 [.slice v p0.length G,.slice x p1.length H,vi p2] w (Pvi J w r):=by
 refine Jp3 J func183 R ntmps183 R λar=>Jf3 R<|Jf3 R<|Jq<|Jl3 1 R<|Js3 R U30 R R<|Jb 1 R<|Ob h λD V O=>Jx1 (λb a=>∃c,∃j:Int×Int,b=[(7,vi j.1),(8,vi j.2)]/\Stp [] J w c a/\D=FX j) (Jv<|Ju3 [0,2,11,12] (λg f b a=>∃c e,∃d:Int×Int,b=(7,vi d.1)::(8,vi d.2)::(13,vi e)::f/\Stp [] J w c a/\0<=e/\FV ((p1.length:Int)-e)=g/\cntM (ik p0 p1 p2) g e d=some D) ⟨_,_,⟨J,0,(((-1):Int),((-1):Int)),R,Jo3,(by decide),(by simp),V⟩,(KM R)⟩ ?_) ?_
 rintro g _ _ ⟨t,e,d,rfl,u,z,i,h⟩
 rcases g with _|g
 exact Jf3 R<|Jq<|Jx2 R (dcf i)<|Jc1<|Jt<|Jt<|Jb1<|Oh h<|Jw1 _ ⟨t,(d.1,d.2),R,Fct,R⟩<|KM R
 refine Ob h λau h q=>Jf3 R<|Jq<|Jw2 R (dct i)<|Js<|Jp<|Jq<|Jv<|Jl3 1 R<|Ob h λ_ A h=>Jd3 R p A U30 Z2<|Jc3 R I2 ((p.stp u).gInt A)<|Jb 2 R<|Jq<|Jl3 2 R<|Ob h λ_ B h=>Jd3 R y B U58 Z120<|Je3 R U120 R Z30 ?_
 have o:=y.stp u
 obtain⟨_,W,T⟩:=(o).gSt B
 obtain⟨aj,av,ak,aw,rfl,an,ao⟩:=Pair.un W
 refine Jc3 R I30 (λa s=>T a s 0 _ R)<|Jn 1 R<|Ob h λaz ad h=>Jw3 R C135 (ch (J:=Mk t) Gct ad)<|Kb λag k M=>Tv<|Jd<|Ob h λE h P=>Jt3 [0,2,8,9,10,11,12,13] (λf b a=>∃c,b=(7,vi E)::f/\Stp [] k ag c a) ?_ ?_
 exact Bk h (λY h=>Jy R<|Js<|Oh h<|Jw1 _ ⟨k,R,Jo3⟩<|KM R) (λY h=>Jx R<|Jg3 R<|Oh h<|Jw1 _ ⟨k,R,Jo3⟩<|KM R)
 rintro _ _ ⟨I,rfl,N⟩
 refine Jp<|Jl3 2 R<|Ob P λ_ C h=>Jd3 R o C U58 Z120<|Je3 R U120 R Z30 ?_
 obtain⟨_,X,U⟩:=((o.stp (M.tr N))).gSt C
 obtain⟨al,ax,am,ay,rfl,ap,aq⟩:=Pair.un X
 refine Jc3 R I30 (λa s=>U a s 1 _ R)<|Jn 1 R<|Ob h λaA ae h=>Jw3 R C135 (ch (J:=Mk I) Gct ae)<|Kb λah m _=>Tv<|Jd<|Ob h λF h Q=>Jt3 [0,2,7,11,12,13] (λf b a=>∃c,b=(8,vi F)::f/\Stp [] m ah c a) ?_ ?_
 exact Bk h (λZ h=>Jy R<|Js<|Oh h<|Jw1 _ ⟨m,R,Jo3⟩<|KM R) (λZ h=>Jx R<|Jg3 R<|Oh h<|Jw1 _ ⟨m,R,Jo3⟩<|KM R)
 rintro _ _ ⟨K,rfl,_⟩
 exact have h:=Q;Jz (Jp<|Jg3 R<|wr2 z i p.len_le ▸ (Ou h q (λq=>Ja2 ⟨K,e+1,(E,F),R,Fct,nxz z,nxm i,q⟩ R)))
 rintro _ ai ⟨L,j,rfl,_,rfl⟩
 refine have h:=yI O;Jp (Jq<|Jv<|Jl3 3 R<|Ob h λaf h S=>Jk4 [7,8] 41 af L ai 3 tv ?_ ?_)
 exact Bk h (λaa h=>Jn 3 R<|Oh h<|Jl4 tv R) (λaa h=>Jn 3 R<|Oh h<|Jl4 tv R)
 rintro _ _ _ ⟨rfl,n,_⟩
 refine have h:=S;Jb 1 R ?_
 refine Bk h (λab h=>Jy R<|Jf3 R ?_) (λab h=>Jx R<|Jf3 R<|Ju<|Ja1<|Jw<|Jb2 (l:=[.tmp 6]) results183 (Jq2 R R) R<|Oh h<|⟨n,R,Fct⟩)
 exact Bk h (λac h=>Jy R<|Js<|Jz<|Jp<|Jf3 R<|Ju<|Jb2 (l:=[.tmp 6]) results183 (Jq2 R R) R<|Oh h<|⟨n,R,Fct⟩) (λac h=>Jx R<|Jf3 R<|Ju<|Ja1<|Jw<|Jb2 (l:=[.tmp 6]) results183 (Jq2 R R) R<|Oh h<|⟨n,R,Fct⟩)
theorem sM (n:Nat):∀{w:World}{J:Col}{B I G C L H F K}{p0:solver}{u y}{p1:VB}{M}(Z:Rd Ri J w 0 B I p0.game.Arena.Owner) (aa:Rd Rs J w 0 G C p0.game.Arena.Next) (ab:Rd Ri J w 0 L H p0.game.Prio) (ac:Rd Rs J w 0 F K p0.preds) (aG:Rd Rp.bool J w 0 u y p1) (ad:Bc J w 0 M 220 [.slice B p0.game.Arena.Owner.length I,.slice G p0.game.Arena.Next.length C,.slice L p0.game.Prio.length H,.slice F p0.preds.length K]){r:VB×Int}(h:dU n p0 p1=some r),Ret prog 205 [.pointer (some ⟨M,0,none⟩),.slice u p1.length y] w (λcl a=>∃b aO aP,cl= .tuple #[.slice aO r.1.length aP,vi r.2]/\Ent J w b a/\Rd Rp.bool b a 0 aO aP r.1):=by
 induction n with
 |zero=>
  intro w J B I G C L H F K p0 u y p1 M Z aa ab ac aG ad r h
  cases h
 |succ n ca=>
  intro w J B I G C L H F K p0 u y p1 M Z aa ab ac aG ad r h
  have h:ee (dU n) p0 p1=some r:=h
  unfold ee at h
  refine Jp3 J func205 R ntmps205 R λcP=>Jf3 R<|Jl3 1 R<|Ob h λct bV h=>Jw3 R call206 (iB (J:=Mk J) Gct bV) ?_
  rintro _ _ ⟨_,cI,cM,rfl,bn,bG⟩
  obtain⟨al,t,ce⟩:=Ji bn 2 R
  refine Tv<|Jb 1 R<|Jq<|Jl3 1 R<|Js3 R U30 R R<|Jb 1 R ?_
  revert h
  cases cQ:((ct.length:Int)==0)
  refine JF λh=>Jy R<|Js<|Jp<|Jl3 1 R<|Jf R (bX R R)<|Je3 R U220 R Z55 ?_
  have W:=ad.stp t
  refine Jg4 tv R (Jh4 (haE<|W.lds 0 3 R) I55 Z55 R)<|Jn 1 R<|Ob h λah bY h=>?_
  have bz:=Z.stp t
  have bA:=aa.stp t
  have X:=ab.stp t
  refine Jw3 R call237 (yY (J:=Mk al) (p0:=p0.game) Gct Gct Gct (Jn3 (bG.mx (bW _) ce R (R:2+2=4)).rdc) bY) ?_
  rintro _ _ ⟨_,rfl,bm⟩
  obtain⟨aZ,j,_⟩:=Ji bm 5 R
  refine Tv<|Jb 1 R<|Jl3 1 R<|Jf R (rT R R R<|show ¬(2:Int)=0 by decide) (Jb 1 R<|Jj3<|Jc4 aZ FT 7 R Y179 dw R λcJ cO _ a0 k bE=>Tv<|Jn 1 R<|Ob h λcu bZ h=>Jd4 a0 FT 7 [] R Y179 dw R bE (Sl.srcP Aj Fct) bU bZ R λbf ba cq ak m bF=>Tv<|Jb 1 R<|Ob h λck bS aH=>?_)
  clear h
  refine Jv<|Ju3 [0,1,7,8] (λc d f a=>∃b,∃v:VB,∃D E,f=(9,.slice D v.length E)::d/\Stp [8,14,20,25] ak cq b a/\Oc FT 4 b a 7 D E v/\ci (fq (dU n) p0 p1 ah) c v=some ck) ⟨_,_,⟨ak,cu,bf,ba,R,Jo3,bF,bS⟩,(KM R)⟩ ?_
  rintro c _ _ ⟨a1,v,D,E,rfl,g,Y,h⟩
  rcases c with _|c
  cases h
  obtain⟨_,h,af⟩:=BI h;unfold fq at h
  refine Jv<|Jl3 1 R<|Js3 R U179 R R<|Ob h λA b0 h=>Jl1 (J:=a1) (E:=FT) (z:=(false:Bool)) 8 R R R R R R R Y179 dw R R R R R (λ_ _ _=>R) (Jv2 b0) λav ay aQ S e az=>Tv<|Jb 1 R<|Jq<|Jl3 1 R<|Js3 R U179 R R<|Jb 1 R<|Ob h λaM bT bO=>?_
  clear h
  refine Jt3 [0,1,7,8,9,10] (λd f a=>∃b,∃P:VB,f=d/\Stp [8] S aQ b a/\Oc FT 4 b a 8 av ay P/\A.length=P.length/\aM=FX P) ?_ ?_
  refine Jv<|Ju3 [0,1,7,8,9,10,37] (λc d f a=>∃b s,∃x:VB,f=(38,vi s)::d/\Stp [8] S aQ b a/\Oc FT 4 b a 8 av ay x/\A.length=x.length/\0<=s/\FV ((A.length:Int)-s)=c/\cntM (ft p0 ah v) c s x=some aM) ⟨_,_,⟨S,0,A,R,Jo3,az,R,(by decide),(by simp),bT⟩,(KM R)⟩ ?_
  rintro c _ cr ⟨am,s,x,rfl,au,aA,ag,aI,N,h⟩
  rcases c with _|c
  have O:=h;obtain⟨ch,h⟩:=exq O
  have ae:=dcf N
  refine Jf3 R<|Jq<|Jx2 R ae<|Jc1<|Jt<|Jt ?_
  cases h
  have h:=O
  refine Jb1 ?_
  cases h
  exact Jw1 _ ⟨am,x,R,Fct,aA,ag,R⟩<|KM R
  obtain⟨ch,h,O⟩:=BI h;unfold ft at h
  have ae:=dct N
  refine Jf3 R<|Jq<|Jw2 R ae<|Js<|Jp<|Jq<|Jv<|Jf3 R<|Jm3 4 R<|Ob h λcv aJ h=>Jd3 R Y.rdc aJ U179 Z4<|Jc3 R I4 ((Y.stp<|e.tr au).rdc.gBool aJ)<|Jn 1 R<|Ob h λcj h bP=>Jk4 [0,1,7,8,9,10,37,38,41,42] 58 cj am cr 11 tv ?_ ?_
  revert h
  cases cU:cv
  refine JF λh=>Jn 4 R<|Je4 R<|Jn 2 R<|Je4 R<|Jn 3 R ?_
  cases h
  exact Jl4 tv R
  have an:=(T6 j k m g e au)
  refine JT λh=>Jn 1 R<|Jf R (bX R R)<|Je3 R U220 R Z55<|Je3 R U55 R Z30<|Jc3 R I30 ((W.stp an).ld 2 R R)<|Jn 1 R<|Ob h λ_ aK h=>Jd3 R X aK U30 Z2<|Jc3 R I2 ((X.stp an).gInt aK)<|Jn 3 R ?_
  cases h
  exact Jl4 tv R
  rintro _ _ _ ⟨rfl,a3,_⟩
  have h:=bP
  refine Ob h λ_ b1 h=>Jf R (Jg2 aA.rdc b1 U179 Z4 R R ag R)<|Ob h λaR aL h=>Jk1 (J:=a3) (E:=FT) 8 [] R R R R R R R R Z4 R R R R Fct aL λ_ a4 _ bI=>Tv<|?_
  have bR:A.length=aR.length:=ag.trans (Ju2 aL).2.2.2.symm
  refine Jo<|Jz<|Jp<|Jg3 R<|wr2 aI N az.len_le ▸ ?_
  cases h
  exact Ja2 ⟨a4,s+1,aR,R,Fct,bI,bR,nxz aI,nxm N,O⟩ R
  rintro _ _ ⟨a2,P,rfl,i,bH,bQ,rfl⟩
  have h:=yI bO
  refine Jp<|Jl3 5 R<|Ob h λ_ b2 h=>?_
  have aB:=bz.stp (T6 j k m g e i)
  have aC:=bA.stp (T6 j k m g e i)
  have aD:=X.stp (T6 j k m g e i)
  have aE:=ac.stp (T7 t j k m g e i)
  have aF:=Y.stp (e.tr i)
  have bJ:=W.stp (T6 j k m g e i)
  refine Jw3 R call246 (Ret.cast (by simp only[bQ,List.cons_append,List.nil_append])<|mK (J:=Mk a2) (p0:=p0) (Jn3 aB) (Jn3 aC) (Jn3 aD) (Jn3 aE) (Jn3 aF.rdc) (Jn3 bH.rdc) (bJ.map (mp [] 0) R R) b2) ?_
  rintro _ _ ⟨_,cN,cF,rfl,bo,bK⟩
  obtain⟨a5,o,cf⟩:=Ji bo 9 R
  refine Tv<|Ob h λ_ b3 h=>?_
  have bL:=aF.stp o
  refine Jw3 R call207 (ja (J:=Mk a5) Gct (Jn3 (bK.mx dB cf R (R:9+2=11)).rdc) b3) ?_
  rintro _ cs ⟨_,cH,cK,rfl,bp,bM⟩
  obtain⟨a6,p,cg⟩:=Ji bp 12 R
  refine Tv<|Jb 1 R<|Jl3 2 R ?_
  obtain⟨a7,q,cA⟩:=eD a6 cs 14
  have bq:=Sl.st cA (bM.mx dB cg R (R:12+2=14)).rdc
  refine Ob h λcw b4 h=>?_
  have br:=aB.stp (T3 o p q)
  have bs:=aC.stp (T3 o p q)
  have bt:=aD.stp (T3 o p q)
  have bu:=aE.stp (T3 o p q)
  refine Jw3 R call205 (ca (J:=λV=>mp [] 1<|a7 V) (p0:=p0) (Jm2 br (mp [] 1) R R) (Jm2 bs (mp [] 1) R R) (Jm2 bt (mp [] 1) R R) (Jm2 bu (mp [] 1) R R) (Jm2 bq (mp [] 1) R R) Fct b4) ?_
  rintro _ cm ⟨_,bc,bd,rfl,bg,bv⟩
  obtain⟨Q,ao,_,cB⟩:=Jj bg 15 R
  refine Tv<|?_
  have bw:=bv.mx cB
  refine Jb 5 R<|Jf3 R<|Jq<|Jf3 R<|Ob h λaN h bN=>Jt3 [0,1,7,8,9] (λd f a=>∃b T U,f=(15,.slice T aN.length U)::d/\Stp [20] Q cm b a/\Rd Rp.bool b a 0 T U aN) ?_ ?_
  revert h
  cases cR:(cw.2==(Int.tmod ah 2))
  refine JF λh=>Jy R<|Js ?_
  cases h
  exact Jw1 _ ⟨Q,bc,bd,R,Jo3,bw⟩<|KM R
  refine JT λh=>Jx R<|Jm3 2 R<|Ob h λ_ b5 h=>Jw3 R call207 (ja (J:=Mk Q) Gct Gct b5) ?_
  rintro _ cn ⟨_,be,bb,rfl,bh,bx⟩
  obtain⟨aT,_,cb⟩:=Ji bh 18 R
  refine Tv<|Jc 1 R ?_
  obtain⟨aU,_,cC⟩:=eD aT cn 20
  cases h
  exact Jw1 _ ⟨aU,be,bb,R,Fct,(Sl.st cC (bx.mx dB cb R (R:18+2=20)).rdc)⟩<|KM R
  rintro _ _ ⟨aS,T,U,rfl,ap,_⟩
  have h:=bN
  refine Jp<|Jq<|Jl3 1 R<|Ob h λcx b6 h=>Jw3 R call247 (fw (J:=Mk aS) Gct b6) ?_
  rintro _ co ⟨_,rfl,bi⟩
  obtain⟨ai,aq,_⟩:=Ji bi 18 R
  refine Tv<|Jb 1 R ?_
  revert h
  cases cS:(!cx)
  refine JF λh=>Jy R<|Js<|Jp<|Jl3 6 R<|Ob h λ_ b7 h=>?_
  refine Jw3 R call246 (mK (J:=Mk ai) (p0:=p0) Gct Gct Gct Gct Gct Gct Fct b7) ?_
  rintro _ _ ⟨_,cG,cL,rfl,bj,bB⟩
  obtain⟨aW,a8,cc⟩:=Ji bj 20 R
  refine Tv<|Ob h λcy b8 h=>Jw3 R call207 (ja (J:=Mk aW) Gct (Jn3 (bB.mx dB cc R (R:20+2=22)).rdc) b8) ?_
  rintro _ _ ⟨_,aw,ax,rfl,bk,bC⟩
  obtain⟨aX,a9,cd⟩:=Ji bk 23 R
  refine Tv<|?_
  have bD:=bC.mx dB cd R (R:23+2=25)
  refine Jb 1 R<|Jl3 1 R<|Ob h λcz b9 h=>Jw3 R call247 (fw (J:=Mk aX) Gct b9) ?_
  rintro _ cp ⟨_,rfl,bl⟩
  obtain⟨aj,ar,_⟩:=Ji bl 26 R
  refine Tv<|Jb 1 R ?_
  revert h
  cases cT:(!cz)
  refine JF λh=>Jy R<|Js<|Jz ?_
  cases h
  exact Ja2 ⟨(λV=>ren [(25,7)]<|aj V),cy,aw,ax,R,(Jz2 ((T12 g e i o p q ao ap aq a8 a9 ar).wk R) [(25,7)] R),Fct,af⟩ R
  refine JT λh=>Jx R<|Jf3 R<|Ju<|Ja1<|Jw ?_
  cases h
  obtain rfl:=Option.some.inj af
  have h:=yL aH
  refine Ja1 ?_
  obtain⟨aY,_,cE⟩:=eD aj cp 25
  refine Jb2 (l:=[.tmp 4,.tmp 5]) results205 (Jq2 R<|Jq2 R R) R ?_
  cases h
  exact⟨aY,aw,ax,R,Fct,(Sl.st cE (bD.stp ar).rdc)⟩
  refine JT λh=>Jx R<|Jf3 R<|Ju<|Jw<|Ja1<|Jw ?_
  cases h
  obtain rfl:=Option.some.inj af
  have h:=yL aH
  refine Ja1 ?_
  obtain⟨aV,_,cD⟩:=eD ai co 7
  refine Jb2 (l:=[.tmp 4,.tmp 5]) results205 (Jq2 R<|Jq2 R R) R ?_
  cases h
  exact⟨aV,D,E,R,Fct,(Sl.st cD (bL.stp<|T5 p q ao ap aq).rdc)⟩
  refine JT λh=>Jx R<|Jf3 R<|Ju<|Jw<|Jb2 (l:=[.tmp 4,.tmp 5]) results205 (Jq2 R<|Jq2 R R) R ?_
  cases h
  exact⟨al,u,y,R,Fct,Fct⟩
theorem wg {ba bO}{p0:VV}{bb bP}{p1:VB}(I:Rd Rs J w 0 ba bO p0) (Y:Rd Rp.bool J w 0 bb bP p1){r:VV}(h:pc p0 p1=some r):Ret prog 233 [.slice ba p0.length bO,.slice bb p1.length bP] w (λd9 a=>∃b bM bN,d9= .slice bM r.length bN/\Ent J w b a/\Oc (Ep.fz Rs) 30 b a 2 bM bN r):=by
 refine Jp3 J func233 R ntmps233 R λep=>Jj3<|Jx3 J 2 R λcC _ b6 S aP=>Tv<|Jb 1 R<|Jl3 1 R<|Js3 R U51 R R<|Ob h λC dV h=>Jl1 (J:=b6) (E:=(FU E6 2)) (z:=([]:VI)) 3 R R R R R R R Y51 bY R R R R R (λ_ _ _=>⟨none,0,R,Ow.nil⟩) (Jv2 dV) λT U bX aC n db=>Tv<|Jb 1 R<|Jq<|Jl3 1 R<|Js3 R U51 R R<|Jb 1 R<|Ob h λbJ dD df=>Jt3 [0,3,5] (λc e a=>∃b,∃ac:VV,e=c/\Stp [3,5] aC bX b a/\Oc (FU E6 2) 30 b a 3 T U ac/\C.length=ac.length/\bJ=FX ac) (Jv<|Ju3 [0,3,5,21,22] (λd c e a=>∃b q,∃L:VV,e=(23,vi q)::c/\Stp [3,5] aC bX b a/\Oc (FU E6 2) 30 b a 3 T U L/\C.length=L.length/\0<=q/\FV ((p0.length:Int)-q)=d/\cntM (gM p0 p1) d q L=some bJ) ⟨_,_,⟨aC,0,C,R,Jo3,db,R,(by decide),(by simp),dD⟩,(KM R)⟩ ?_) ?_
 rintro d _ bR ⟨ah,q,L,rfl,aD,bk,bw,bu,av,h⟩
 rcases d with _|d
 exact Jf3 R<|Jq<|Jx2 R (dcf av)<|Jc1<|Jt<|Jt<|Jb1<|Oh h<|Jw1 _ ⟨ah,L,R,Fct,bk,bw,R⟩<|KM R
 refine Ob h λes h aT=>Jf3 R<|Jq<|Jw2 R (dct av)<|Js<|Jp<|Jq<|Jv<|Jl3 1 R<|Ob h λb0 bA h=>Jd3 R I bA U51 Z30 ?_
 obtain⟨_,_,aN,dq⟩:=(I.stp (T3 S n aD)).gSl bA
 refine Jc3 R I30 dq<|Jb 2 R<|Jl3 1 R<|Js3 R U30 R R<|Jb 1 R<|Ob h λbK dG dm=>Jt3 [0,3,5,21,22,23] (λc e a=>∃b,∃ae:VV,e=c/\Stp [3,5] ah bR b a/\Oc (FU E6 2) 30 b a 3 T U ae/\C.length=ae.length/\bK=FX ae) (Jv<|Ju3 [0,3,5,6,21,22,23,28,29] (λd c e a=>∃b N,∃ad:VV,e=(30,vi N)::c/\Stp [3,5] ah bR b a/\Oc (FU E6 2) 30 b a 3 T U ad/\C.length=ad.length/\0<=N/\FV ((b0.length:Int)-N)=d/\cntM (kq p1 q b0) d N ad=some bK) ⟨_,_,⟨ah,0,L,R,Jo3,bk,bw,(by decide),(by simp),dG⟩,(KM R)⟩ ?_) ?_
 rintro d _ ed ⟨a4,N,ad,rfl,aG,aO,ab,bt,au,h⟩
 rcases d with _|d
 exact Jf3 R<|Jq<|Jx2 R (dcf au)<|Jc1<|Jt<|Jt<|Jb1<|Oh h<|Jw1 _ ⟨a4,ad,R,Fct,aO,ab,R⟩<|KM R
 refine Ob h λer h aU=>Jf3 R<|Jq<|Jw2 R (dct au)<|Js<|Jp<|Jq<|Jv<|Jj3<|Ob h λ_ bB h=>Jd3 R aN bB U30 Z2<|Jc3 R I2 ((aN.stp aG).gInt bB)<|Jb 1 R<|Jj3 (have bp:=aP.stp (T3 n aD aG);Jc3 R I179 (bp.ld 0 R R) (Jn 1 R<|Ob h λeu bC h=>Jd3 R Y bC U179 Z4 (have aQ:=Y.stp (T4 S n aD aG);Jc3 R I4 (aQ.gBool bC) (Jn 1 R<|Ob h λd7 h dn=>Jk4 [0,3,5,6,9,21,22,23,28,29,30] 43 d7 a4 ed 5 tv ?_ ?_))))
 exact Bk h (λdN h=>Je4 R<|Jn 2 R<|Je4 R<|Jn 1 R<|Oh h<|Jl4 tv R) (λdN h=>Jc3 R I179 (bp.ld 0 R R)<|Jn 1 R<|Ob h λ_ bD h=>Jd3 R aQ bD U179 Z4<|Jc3 R I4 (aQ.gBool bD)<|Jn 1 R<|Oh h<|Jl4 tv R)
 rintro _ ee _ ⟨rfl,aB,cq⟩
 refine Jd<|Ob dn λaZ h dp=>Jt3 [0,3,5,6,21,22,23,28,29,30] (λc e a=>∃b,e=c/\Stp [3,5] aB ee b a/\Oc (FU E6 2) 30 b a 3 T U aZ/\C.length=aZ.length) ?_ ?_
 refine Bk h (λdO h=>Jy R<|Js<|Oh h<|Jw1 _ ⟨aB,R,Jo3,Fct,ab⟩<|KM R) (λdO h=>Jx R<|Jm3 4 R<|Ob h λ_ aV h=>Jf R (Jg2 aO.rdc aV U51 Z30 R R ab R) ?_)
 have bq:=aO.stp cq
 obtain⟨_,_,_,bv⟩:=bq.rdc.gSl aV
 refine Jc3 R I30 bv<|Jn 1 R<|Ji4 aB 4 [q] R Y30 bS R λeo en _ _ a9 c6=>Tv<|?_
 have br:=bq.stp a9
 obtain⟨cj,cr,c7,_⟩:=br.borrow aV (bv _ (Stp.ag a9 R)) 5 R R
 exact Ob h λ_ dX h=>Jd4 cj E6 5 [] R Y30 bS R c7 (Sl.srcP (cd _) (c6.stp cr).rdc) bU dX R λel em _ ck _ c8=>Tv<|Ob h λ_ dY h=>Jf R (Jg2 br.rdc dY U51 Z30 R R ab R) (Ob h λeg bH h=>WO.stH (J:=ck) (E:=(FU E6 2)) 3 [5] R R R R R R R R Z30 R ⟨_,_,R,c8⟩ R R Fct bH λ_ cl _ da=>Tv<|have dC:C.length=eg.length:=ab.trans (Ju2 bH).2.2.2.symm;Jo (Oh h<|Jw1 _ ⟨cl,R,Fct,da,dC⟩<|KM R))
 rintro _ _ ⟨cg,rfl,_,c5,dA⟩
 exact have h:=dp;Jz (Jp<|Jg3 R<|wr2 bt au aN.len_le ▸ (Ou h aU (λaU=>Ja2 ⟨cg,N+1,aZ,R,Fct,c5,dA,nxz bt,nxm au,aU⟩ R)))
 rintro _ _ ⟨cf,ae,rfl,_,c4,dz,rfl⟩
 exact have h:=yI dm;Jz (Jp<|Jg3 R<|wr2 bu av I.len_le ▸ (Ou h aT (λaT=>Ja2 ⟨cf,q+1,ae,R,Fct,c4,dz,nxz bu,nxm av,aT⟩ R)))
 rintro _ _ ⟨b2,ac,rfl,Q,cO,du,rfl⟩
 refine have h:=yI df;Jp (Jl3 1 R<|Js3 R U51 R R<|Ob h λaf dZ h=>Jl1 (J:=b2) (E:=FT) (z:=(false:Bool)) 4 R R R R R R R Y179 dw R R R R R (λ_ _ _=>R) (Jv2 dZ) λak al _ cm D _=>Tv<|Jy3 cm 5 R zeroValue179 R λcA _ a5 E dc=>Tv<|Ja4 a5 5 (vc:=[.slice ak af.length al]) R sizeOf179 R dc R λ_ F dd=>Tv<|Jd<|Jj3<|Jc4 a5 E6 6 R Y30 bS R λbe bf _ cn y _=>Tv<|Jy3 cn 7 R zeroValue30 R λaL _ a6 A de=>Tv<|Ja4 a6 7 (vc:=[.slice be ([]:VI).length bf]) R Z30 R de R λ_ B _=>Tv<|Jd<|Jj3<|Jy3 a6 8 R zeroValue290 R λcB _ ag s cH=>Tv<|Jd<|Jj3<|Jf R (d5 (first:=[]) (captured:=[.tmp 10,.tmp 3,.tmp 12]) R R R ⟨_,R⟩)<|Ja4 ag 8 (vc:=[.func (.func 267) #[] #[.pointer (some ⟨cA,0,none⟩),.pointer (some ⟨cC,0,none⟩),.pointer (some ⟨cB,0,none⟩)]]) R sizeOf290 R cH R λbQ t bg=>Tv<|Jd<|Jq<|Jl3 1 R<|Js3 R U51 R R<|Jb 1 R<|Ob h λbL dE dg=>Jt3 [0,5,10,11,12] (λc e a=>∃b,∃o:VI×VB,∃aK aJ,e=c/\Stp [4,6,7,11,12,13] ag bQ b a/\Oc E6 2 b a 6 aK aJ o.1/\Oc FT 4 b a 4 ak al o.2/\af.length=o.2.length/\Bc b a 7 aL 30 [.slice aK o.1.length aJ]/\bL=FX o) (Jv<|Ju3 [0,3,5,10,11,12,62] (λd c e a=>∃b O,∃p:VI×VB,∃V W,e=(63,vi O)::c/\Stp [4,6,7,11,12,13] ag bQ b a/\Oc E6 2 b a 6 V W p.1/\Oc FT 4 b a 4 ak al p.2/\af.length=p.2.length/\Bc b a 7 aL 30 [.slice V p.1.length W]/\0<=O/\FV ((p0.length:Int)-O)=d/\cntM (iX p0 p1) d O p=some bL) ⟨_,_,⟨ag,0,(([]:VI),af),be,bf,R,Jo3,Fct,Fct,R,Fct,(by decide),(by simp),dE⟩,(KM R)⟩ ?_) ?_)
 rintro d _ ea ⟨a0,O,p,V,W,rfl,ai,cJ,aM,Z,cK,bs,ar,h⟩
 rcases d with _|d
 exact Jf3 R<|Jq<|Jx2 R (dcf ar)<|Jc1<|Jt<|Jt<|Jb1<|Oh h<|Jw1 _ ⟨a0,(p.1,p.2),V,W,R,Fct,cJ,aM,Z,cK,R⟩<|KM R
 refine Ob h λeq h aR=>Jf3 R<|Jq<|Jw2 R (dct ar)<|Js<|Jp<|Jq<|Jv<|Jf3 R<|Jj3<|Jc3 R I179 ((aP.stp<|T11 n Q D E F y A B s t ai).ld 0 R R)<|Jn 1 R<|Ob h λev bE h=>Jd3 R Y bE U179 Z4<|Jc3 R I4 ((Y.stp<|T12 S n Q D E F y A B s t ai).gBool bE)<|Jn 1 R<|Ob h λd8 h dh=>Jk4 [0,3,5,10,11,12,13,62,63] 76 d8 a0 ea 6 tv ?_ ?_
 exact Bk h (λdH h=>Je4 R<|Jn 2 R<|Je4 R<|Jn 2 R<|Oh h<|Jl4 tv R) (λdH h=>Jc3 R I179 ((dd.stp<|T6 y A B s t ai).ld 0 R R)<|Jn 1 R<|Ob h λ_ bF h=>Jf R (Jg2 aM.rdc bF U179 Z4 R R Z R)<|Jc3 R I4 (aM.rdc.gBool bF)<|Jn 2 R<|Oh h<|Jl4 tv R)
 rintro _ eb _ ⟨rfl,ax,co⟩
 refine Jd<|Ob dh λK h di=>Jt3 [0,3,5,10,11,12,62,63] (λc e a=>∃b ao aj,e=c/\Stp [4,6,7,11,12,13] ax eb b a/\Oc E6 2 b a 6 ao aj K.1/\Oc FT 4 b a 4 ak al K.2/\af.length=K.2.length/\Bc b a 7 aL 30 [.slice ao K.1.length aj]) ?_ ?_
 refine Bk h (λdI h=>Jy R<|Js<|Oh h<|Jw1 _ ⟨ax,V,W,R,Jo3,Fct,Fct,Z,Fct⟩<|KM R) (λdI h=>Jx R<|Jk3<|Jc3 R isAgg290 ((bg.stp<|ai.tr co).ld 0 R R)<|Jn 2 R<|Jf R (d5 (first:=[]) (captured:=[.tmp 11]) R R R ⟨_,R⟩)<|Ob h λ_ d0 h=>WO.callV R R R R R R R R call267 (fJ _ (J:=λg=>mp [(6,2),(4,3),(7,4)] 0<|ax g) (Jm2 Fct (mp [(6,2),(4,3),(7,4)] 0) R R) Fct Fct (Jm2 Fct (mp [(6,2),(4,3),(7,4)] 0) R R) Fct (Bc.cast Fct (by simp only[Z])) Fct Fct d0) ?_)
 rintro _ _ ⟨_,cw,ct,rfl,cD,cP,cQ,dt,cR⟩
 exact Im cD 9 R (λb4 _ aW=>Tv<|Jo<|Oh h<|Jw1 _ ⟨(λg=>ren [(11,6),(12,4),(13,7)]<|b4 g),cw,ct,R,Fct,((cP.mx (bW _) aW R (R:9+2=11)).map (ren [(11,6),(12,4),(13,7)]) R R),((cQ.mx dB aW R (R:9+3=12)).map (ren [(11,6),(12,4),(13,7)]) R R),(Z.trans dt),((cR.mx aW R (R:9+4=13)).map (ren [(11,6),(12,4),(13,7)]) R R)⟩<|KM R)
 rintro _ _ ⟨b3,ao,aj,rfl,_,cL,cM,ds,cN⟩
 exact have h:=di;Jz (Jp<|Jg3 R<|wr2 bs ar I.len_le ▸ (Ou h aR (λaR=>Ja2 ⟨b3,O+1,(K.1,K.2),ao,aj,R,Fct,cL,cM,ds,cN,nxz bs,nxm ar,aR⟩ R)))
 rintro _ _ ⟨b1,o,aK,aJ,rfl,P,bh,_,_,cI,rfl⟩
 refine have h:=yI dg;Jp (Jl3 1 R<|Js3 R U51 R R<|Ob h λaw d1 h=>Jl1 (J:=b1) (E:=FT) (z:=(false:Bool)) 9 R R R R R R R Y179 dw R R R R R (λ_ _ _=>R) (Jv2 d1) λaI aH _ a1 u _=>Tv<|Ja4 a1 5 (vc:=[.slice aI aw.length aH]) R sizeOf179 R Fct R λ_ v cS=>Tv<|Jd<|Jj3<|Jc4 a1 (Ep.fz<|Rs) 10 R Y51 bY R λcz cv bT ay j cT=>Tv<|Jb 1 R<|Jq<|Jj3 (have bi:=cI.stp (T3 u v j);Jc3 R I30 (bi.ld 0 R R) (Js3 R U30 R R<|Jb 2 R<|Ob h λbI dF dj=>Jx1 (λe a=>∃b,∃M:VV×Int×VB,∃ap am,e=[(14,.slice ap M.1.length am)]/\Stp [9,10,11,12,15,16,20,21] ay bT b a/\Oc (Ep.fz<|Rs) 30 b a 10 ap am M.1/\Oc FT 4 b a 9 aI aH M.2.2/\aw.length=M.2.2.length/\bI=FX M) (Jv<|Ju3 [0,5,10,11,12] (λd c e a=>∃b,∃f:VV×Int×VB,∃H G,e=(14,.slice H f.1.length G)::(15,vi f.2.1)::c/\Stp [9,10,11,12,15,16,20,21] ay bT b a/\Oc (Ep.fz<|Rs) 30 b a 10 H G f.1/\Oc FT 4 b a 9 aI aH f.2.2/\aw.length=f.2.2.length/\ci (dT p0 p1 ac o) d f=some bI) ⟨_,_,⟨ay,(([]:VV),((FW .i64 ((o.1.length:Int)-1)):Int),aw),cz,cv,R,Jo3,cT,Fct,R,dF⟩,(KM R)⟩ ?_) ?_)))
 rintro d _ _ ⟨az,f,H,G,rfl,i,bj,X,aa,h⟩
 rcases d with _|d
 cases h
 refine Ob h λ_ h aS=>Jq<|Jf3 R ?_
 refine Bk h (λdJ h=>Jy R<|Jc1<|Jt<|Jt ?_) (λdJ h=>Jx R<|Js<|Jp<|Jq<|Jv<|Jj3<|Jc3 R I30 ((bi.stp i).ld 0 R R)<|Jn 1 R<|Ob h λ_ bG h=>Jd3 R bh.rdc bG U30 Z2<|Jc3 R I2 ((bh.stp<|T4 u v j i).rdc.gInt bG)<|Jb 1 R<|Jq<|Jj3 (have bl:=cS.stp (j.tr i);Jc3 R I179 (bl.ld 0 R R) (Jn 1 R<|Ob h λet bx h=>Jf R (Jg2 X.rdc bx U179 Z4 R R aa R)<|Jc3 R I4 (X.rdc.gBool bx)<|Jd ?_)))
 cases h
 exact have h:=aS;Jb1 (Oh h<|Jw1 _ ⟨az,(f.1,f.2.1,f.2.2),H,G,R,Fct,bj,X,aa,R⟩<|KM R)
 refine Bk h (λdK h=>Jy R<|Js<|Jp<|Jj3<|Jc4 az E6 11 R Y30 bS R λcx cs _ b7 x cU=>Tv<|Jy3 b7 12 R zeroValue30 R λ_ _ a2 k cV=>Tv<|Ja4 a2 12 (vc:=[.slice cx ([]:VI).length cs]) R Z30 R cV R λ_ m cW=>Tv<|Jd<|Jj3 (have bm:=bg.stp (T8 P u v j i x k m);have a7:=(T3 x k m);Jc3 R isAgg290 (bm.ld 0 R R) (Jn 2 R<|Jf R (d5 (first:=[]) (captured:=[.tmp 17]) R R R ⟨_,R⟩)<|Ob h λbZ dP h=>WO.callV R R R R R R R R call267 (Ret.cast (by simp only[du,List.cons_append,List.nil_append])<|fK _ (J:=λg=>mp [(11,2),(9,3),(12,4)] 0<|a2 g) (Jm2 (cO.stp<|T16 D E F y A B s t P u v j i x k m).rdc (mp [(11,2),(9,3),(12,4)] 0) R R) ((cU.stp<|k.tr m).map (mp [(11,2),(9,3),(12,4)] 0) R R) ((X.stp a7).map (mp [(11,2),(9,3),(12,4)] 0) R R) (Jm2 (Y.stp<|S.tr<|n.tr<|Q.tr<|D.tr<|E.tr<|F.tr<|y.tr<|A.tr<|B.tr<|s.tr<|t.tr<|P.tr<|u.tr<|v.tr<|j.tr<|i.tr<|x.tr<|k.tr m) (mp [(11,2),(9,3),(12,4)] 0) R R) (cW.map (mp [(11,2),(9,3),(12,4)] 0) R R) (Bc.cast ((bl.stp a7).map (mp [(11,2),(9,3),(12,4)] 0) R R) (by simp only[aa])) ((aP.stp<|n.tr<|Q.tr<|D.tr<|E.tr<|F.tr<|y.tr<|A.tr<|B.tr<|s.tr<|t.tr<|P.tr<|u.tr<|v.tr<|j.tr<|i.tr<|x.tr<|k.tr m).map (mp [(11,2),(9,3),(12,4)] 0) R R) (bm.map (mp [(11,2),(9,3),(12,4)] 0) R R) dP) ?_))) (λdK h=>Jx R<|Jc1<|Jt<|Jb1<|Jp<|Jg3 R ?_)
 rintro _ _ ⟨_,bc,bd,rfl,cE,cX,cY,dv,cZ⟩
 refine Im cE 13 R (λb8 a8 aX=>Tv<|have bn:=cZ.mx aX R (R:13+4=17);Jd (Jj3<|Jc3 R I30 (bn.ld 0 R R)<|Ob h λef dQ h=>Jw3 R call176 (dW (J:=λg=>mp [(15,2)] 0<|b8 g) ((cX.mx (bW _) aX R (R:13+2=15)).map (mp [(15,2)] 0) R R) dQ) ?_))
 rintro _ ec ⟨_,rfl,cF,c0,dx⟩
 refine Im cF 18 R (λa3 aE d2=>Tv<|Jd<|Jj3 (have bo:=bn.stp aE;Jc3 R I30 (bo.ld 0 R R) (Js3 R U30 R R<|Jn 2 R<|Ob h λd6 h dk=>Jk4 [0,5,10,11,12,14,15,17] 120 d6 a3 ec 7 tv ?_ ?_)))
 refine Bk h (λdL h=>Jn 2 R<|Ob h λ_ bz h=>Jd3 R I bz U51 Z30 ?_) (λdL h=>Jn 3 R<|Je4 R<|Jn 1 R<|Je4 R<|Jn 1 R<|Oh h<|Jl4 tv R)
 obtain⟨_,_,_,dr⟩:=(I.stp (S.tr (n.tr (Q.tr (D.tr (E.tr (F.tr (y.tr (A.tr (B.tr (s.tr (t.tr (P.tr (u.tr (v.tr (j.tr (i.tr (x.tr (k.tr (m.tr (a8.tr aE))))))))))))))))))))).gSl bz
 exact Jc3 R I30 dr<|Jn 1 R<|Ob h λ_ dR h=>Jw3 R C135 (ch (J:=Mk a3) Gct dR)<|Kb λ_ _ _=>Tv<|Jn 1 R<|Oh h<|Jv1 _ tv ⟨R,_,Fct⟩<|KM R
 rintro _ bV _ ⟨rfl,aA,aF⟩
 refine Jd<|Ob dk λaY h dl=>Jt3 [0,5,10,11,12,15] (λc e a=>∃b an aq,e=(14,.slice an aY.length aq)::c/\Stp [10,20,21] aA bV b a/\Oc (Ep.fz<|Rs) 30 b a 10 an aq aY) ?_ ?_
 refine Bk h (λdM h=>Jy R<|Js<|Oh h<|Jw1 _ ⟨aA,H,G,R,Jo3,Fct⟩<|KM R) (λdM h=>Jx R<|Jm3 1 R<|Jc3 R I30 ((bo.stp aF).ld 0 R R) ?_)
 obtain⟨ca,_,eh⟩:=eD aA bV 20
 exact Jb4 ca (Ep.fz<|Rs) 21 [] (parts:=[(0,.tmp 122)]) (cells:=[.slice bc bZ.1.length bd]) (xs:=([ef]:VV)) R Y51 bY R (Jj4 ⟨_,_,(congrArg (λd4=>[Value.slice bc d4 bd])<|dx),(Sl.z1<|Sl.st eh ((c0.mx (bW _) d2 R (R:18+2=20)).stp aF).rdc)⟩) λek ej _ cb _ c1=>Tv<|Ob h λ_ dS h=>Jd4 cb (Ep.fz<|Rs) 10 [21] R Y51 bY R Fct c1.src (c9 R) dS R λcu cy _ cc _ c2=>Tv<|Jc 1 R<|Oh h<|Jw1 _ ⟨cc,cu,cy,R,Fct,c2⟩<|KM R
 rintro _ _ ⟨b9,an,aq,rfl,cp,_⟩
 refine have h:=dl;Jz (Jp<|Jg3 R ?_)
 cases h
 exact Ja2 ⟨(λg=>ren [(16,9)]<|b9 g),(aY,((FW .i64<|f.2.1-1):Int),bZ.2),an,aq,R,(Jz2 ((T8 i x k m a8 aE aF cp).wk R) [(16,9)] R),Fct,(((cY.mx dB aX R (R:13+3=16)).stp Fct).map (ren [(16,9)]) R R),(aa.trans dv),aS⟩ R
 cases h
 exact Ja2 ⟨az,(f.1,((FW .i64<|f.2.1-1):Int),f.2.2),H,G,R,Fct,bj,X,aa,aS⟩ R
 rintro _ _ ⟨b5,M,ap,am,rfl,_,_,_,_,rfl⟩
 refine have h:=yI dj;Jp (Jl3 1 R<|Ob h λ_ dU h=>Jw3 R call270 (nT (J:=λg=>mp [(10,2)] 1<|b5 g) Fct dU) ?_)
 rintro _ _ ⟨_,rfl,cG,c3,dy⟩
 exact Im0 cG 11 R (λce _ d3 ei=>Tv<|Jd<|Jf3 R<|Ju<|Jb2 (l:=[.tmp 4]) results233 (Jq2 R R) R<|Oh h<|⟨(λg=>ren [(13,2)]<|ce g),ap,am,(by simp only[(dy)]),Fct,((c3.mxz ei d3 R (R:11+2=13)).map (ren [(13,2)]) R R)⟩)
theorem rG {a0 u0} {p0 : VI} (g0 : Rd Ri J w 0 a0 u0 p0) (gGT : Tb prog "internal/strconv.uint64pow10" .u64 Lib.pow10Tab J w) {r : ByteArray} (h : jP p0 = some r) : Ret prog 74 [.slice a0 p0.length u0] w (fun v w' => ∃ κ', v = .string r ∧ Ent J w κ' w') := by
 refine Jp3 J func74 R ntmps74 R λhE=>Jf3 R<|Jj3<|Jc4 J Ep.str 2 R Y33 dx R λa6 u6 w1 K2 S3 f4=>Tv<|Jb 1 R<|Jq<|Jl3 1 R<|Js3 R U30 R R<|Jb 1 R<|Ob h λq2 hq7 hK6=>Jx1 (λL w'=>∃κ',∃s3:(List ByteArray),∃ad ac,L=[(3,.slice ad s3.length ac)]/\Stp [2] K2 w1 κ' w'/\Oc Ep.str 9 κ' w' 2 ad ac s3/\q2=FX s3) (Jv<|Ju3 [7,8] (λk E L w'=>∃κ' v9,∃s1:(List ByteArray),∃aa ab,L=(3,.slice aa s1.length ab)::(9,vi v9)::E/\Stp [2] K2 w1 κ' w'/\Oc Ep.str 9 κ' w' 2 aa ab s1/\0<=v9/\FV ((p0.length:Int)-v9)=k/\cntM (gN p0) k v9 s1=some q2) ⟨_,_,⟨K2,0,(([]:List ByteArray):(List ByteArray)),a6,u6,R,Jo3,f4,(by decide),(by simp),hq7⟩,(KM R)⟩ ?_) ?_
 rintro k _ _ ⟨K13,v9,s1,aa,ab,rfl,S14,f15,hj5,hJ5,h⟩
 rcases k with _|k
 exact Jf3 R<|Jq<|Jx2 R (dcf hJ5)<|Jc1<|Jt<|Jt<|Jb1<|Oh h<|Jw1 _ ⟨K13,s1,aa,ab,R,Fct,f15,R⟩<|KM R
 refine Ob h λo5 h hk16=>Jf3 R<|Jq<|Jw2 R (dct hJ5)<|Js<|Jp<|Jq<|Jv<|Jj3<|Ob h λ_ hx11 h=>Jd3 R g0 hx11 U30 Z2<|Jc3 R I2 ((g0.stp<|S3.tr S14).gInt hx11)<|Jb 1 R<|Jm3 2 R<|Ob h λx15 hx15 h=>Jw3 R call56 (gL (J:=Mk K13) ((gGT.stp<|S3.tr S14).map (mp [] 0) R R) hx15) ?_
 rintro _ _ ⟨_,rfl,e21⟩
 exact Im e21 3 R (λK22 _ _=>Tv<|Jb4 K22 Ep.str 5 [] (parts:=[(0,.tmp 15)]) (cells:=[.string x15]) (xs:=([x15]:List ByteArray)) R Y33 dx R (Jj4 R) λah ai _ K27 _ f29=>Tv<|Ob h λx17 hx17 h=>Jd4 K27 Ep.str 2 [] R Y33 dx R Fct (Sl.srcP ug f29.rdc) bU hx17 R λae af _ K32 _ f34=>Tv<|Jc 1 R<|Jz<|Jp<|Jg3 R<|wr2 hj5 hJ5 g0.len_le ▸ (Ou h hk16 (λhk16=>Ja2 ⟨K32,v9+1,x17,ae,af,R,Fct,f34,nxz hj5,nxm hJ5,hk16⟩ R)))
 rintro _ _ ⟨K9,s3,ad,ac,rfl,_,f11,rfl⟩
 refine have h:=yI hK6;Jp (Jl3 1 R<|Ob h λ_ hx20 h=>Jw3 R call121 (kl (J:=Mk K9) (Jn3 f11.rdc) hx20) ?_)
 rintro _ _ ⟨_,rfl,e37⟩
 exact Im e37 3 R (λK38 _ _=>Tv<|Jb 1 R<|Ju<|Jb2 (l:=[.tmp 2]) results74 (Jq2 R R) R<|Oh h<|⟨K38,R,Fct⟩)
theorem uU {p0:Sig}{p1:Int}{p2:Int}  {r:Int}(h:nE p0 p1 p2=some r):Ret prog 211 [.agg #[vi p0.In,vi p0.Out],vi p1,vi p2] w (Pvi J w r):=by
 refine Jp3 J func211 R ntmps211 R λE=>Jj3<|Jx3 J 2 R λ_ _ i _ a=>Tv<|Jb 1 R<|Jq<|Jj3<|Jg4 tv R (Jh4 (haE a.cells) I39 Z39 R)<|Ob h λF z h=>Jw3 R call24 (lr (J:=Mk i) (p0:=p0) z)<|Kb λD e b=>Tv<|Jn 2 R<|Ob h λA h n=>Jk4 [1,2,3] 18 A e D 8 tv ?_ ?_
 exact Bk h (λp h=>Jn 1 R<|Je3 R U39 R Z2<|Jc3 R I2 ((a.stp b).ld 0 R R)<|Ob h λ_ t h=>Jw3 R call47 (fH (J:=Mk e) t)<|Ki λ_ g _=>Tv<|Jn 1 R<|Ob h λ_ u h=>Jw3 R C25 (dJ (J:=Mk g) u)<|Kb λ_ _ _=>Tv<|Jn 2 R<|Oh h<|Jv1 _ tv ⟨R,_,Fct⟩<|KM R) (λp h=>Jn 2 R<|Je4 R<|Je4 R<|Jn 1 R<|Je4 R<|Jn 2 R<|Oh h<|Jl4 tv R)
 rintro _ C _ ⟨rfl,c,f⟩
 refine Jn 1 R<|Ob n λB h o=>Jk4 [1,2,3] 27 B c C 8 tv ?_ ?_
 exact Bk h (λq h=>Jn 1 R<|Je3 R U39 R Z2<|Jc3 R I2 ((a.stp<|b.tr f).ld 1 R R)<|Ob h λ_ v h=>Jw3 R call47 (fH (J:=Mk c) v)<|Ki λ_ j _=>Tv<|Jn 1 R<|Ob h λ_ x h=>Jw3 R C25 (dJ (J:=Mk j) x)<|Kb λ_ _ _=>Tv<|Jn 2 R<|Oh h<|Jv1 _ tv ⟨R,_,Fct⟩<|KM R) (λq h=>Jn 2 R<|Je4 R<|Je4 R<|Jn 1 R<|Je4 R<|Jn 2 R<|Oh h<|Jl4 tv R)
 rintro _ _ _ ⟨rfl,d,m⟩
 refine have h:=o;Jd ?_
 exact Bk h (λs h=>Jy R<|Js<|Jp<|Jl3 1 R<|Je3 R U39 R Z2<|Jc3 R I2 ((a.stp<|T3 b f m).ld 0 R R)<|Ob h λ_ y h=>Jw3 R call47 (fH (J:=Mk d) y)<|Ki λ_ k _=>Tv<|Jb 4 R<|Ju<|Jb2 (l:=[.tmp 6]) results211 (Jq2 R R) R<|Oh h<|⟨k,R,Fct⟩) (λs h=>Jx R<|Jf3 R<|Ju<|Jw<|Jb2 (l:=[.tmp 6]) results211 (Jq2 R R) R<|Oh h<|⟨d,R,Fct⟩)
theorem oL {aM aL ay aH aI aR aO aQ aN aP}{p0:l7Game}{aF bp}{p1:VB}{p2:Int}{aG bq}{ai:VB}(aY:Rd Ri J w 0 aM aL p0.owner) (dm:Rd Ri J w 0 ay aH p0.prio) (dn:Rd Rs J w 0 aI aR p0.next) (aZ:Rd Rs J w 0 aO aQ p0.prev) (dp:Rd Ri J w 0 aN aP p0.pick) (L:Rd Rp.bool J w 0 aF bp p1) (a0:Rd Rp.bool J w 0 aG bq ai){r:VB}(h:j8 p0 p1 p2 ai=some r):Ret prog 217 [.agg #[.slice aM p0.owner.length aL,.slice ay p0.prio.length aH,.slice aI p0.next.length aR,.slice aO p0.prev.length aQ,.slice aN p0.pick.length aP],.slice aF p1.length bp,vi p2,.slice aG ai.length bq] w (Pvs FT 4 J w r):=by
 refine Jp3 J func217 R ntmps217 R λdq=>Jj3<|Jx3 J 2 R λ_ _ bC F aX=>Tv<|Jb 1 R<|Jl3 1 R<|Js3 R U179 R R<|Ob h λm cW h=>Jl1 (J:=bC) (E:=FT) (z:=(false:Bool)) 3 R R R R R R R Y179 dw R R R R R (λ_ _ _=>R) (Jv2 cW) λp o _ bH u _=>Tv<|Jb 1 R<|Jl3 1 R<|Js3 R U179 R R<|Ob h λn cX h=>Jl1 (J:=bH) (E:=E6) (z:=(0:Int)) 4 R R R R R R R Y30 bS R R R R R (λ_ _ _=>R) (Jv2 cX) λv x _ bv s _=>Tv<|Jb 1 R<|Jj3<|Jc4 bv E6 5 R Y30 bS R λbN bP bs aj t b0=>Tv<|Jb 1 R<|Jq<|Jf3 R<|Ob h λbn cG ck=>Jt3 [1,2,4,9,10] (λc e a=>∃b,∃k:VI×VB×VI,∃X U,e=(11,.slice X k.1.length U)::c/\Stp [3,4,5] aj bs b a/\Oc E6 2 b a 5 X U k.1/\Oc FT 4 b a 3 p o k.2.1/\m.length=k.2.1.length/\Oc E6 2 b a 4 v x k.2.2/\n.length=k.2.2.length/\bn=FX k) (Jv<|Ju3 [1,2,3,4,9,10] (λg c e a=>∃b q,∃i:VI×VB×VI,∃G H,e=(11,.slice G i.1.length H)::(12,vi q)::c/\Stp [3,4,5] aj bs b a/\Oc E6 2 b a 5 G H i.1/\Oc FT 4 b a 3 p o i.2.1/\m.length=i.2.1.length/\Oc E6 2 b a 4 v x i.2.2/\n.length=i.2.2.length/\0<=q/\FV ((p1.length:Int)-q)=g/\cntM (gC p0 p1 ai) g q i=some bn) ⟨_,_,⟨aj,0,(([]:VI),m,n),bN,bP,R,Jo3,b0,Fct,R,Fct,R,(by decide),(by simp),cG⟩,(KM R)⟩ ?_) ?_
 rintro g _ da ⟨O,q,i,G,H,rfl,ao,b8,aW,ag,au,ah,cq,a1,h⟩
 rcases g with _|g
 exact Jq<|Jl3 2 R<|Js3 R U179 R R<|Jb 1 R<|Jx2 R (dcf a1)<|Jc1<|Jt<|Jt<|Jb1<|Oh h<|Jw1 _ ⟨O,(i.1,i.2.1,i.2.2),G,H,R,Fct,b8,aW,ag,au,ah,R⟩<|KM R
 refine Ob h λdr h ax=>have af:=dct a1;Jq (Jl3 2 R<|Js3 R U179 R R<|Jb 1 R<|Jw2 R af<|Js<|Jp<|Jq<|Jv<|Jq<|Jl3 2 R<|Ob h λdt a9 h=>Jd3 R L a9 U179 Z4 (have av:=L.stp (T5 F u s t ao);Jc3 R I4 (av.gBool a9) (Jd<|Ob h λaz h cn=>Jt3 [1,2,3,4,9,10,11,12] (λc e a=>∃b,e=c/\Stp [4] O da b a/\Oc E6 2 b a 4 v x az/\n.length=az.length) ?_ ?_)))
 exact Bk h (λcO h=>Jy R<|Js<|Oh h<|Jw1 _ ⟨O,R,Jo3,au,ah⟩<|KM R) (λcO h=>Jx R<|Jm3 2 R<|Jg4 tv R (Jh4 (haE (aX.stp<|T4 u s t ao).cells) I177 Z177 R)<|Jn 2 R<|Ob h λ_ cY h=>Jw3 R call160 (pS (J:=Mk O) (p0:=p0) Gct Gct Gct Gct Gct Gct cY)<|Ki λ_ bG _=>Tv<|Ob h λ_ cZ h=>Jf R (Jg2 au.rdc cZ U30 Z2 R R ah R) (Ob h λdf bi h=>Jk1 (J:=bG) (E:=E6) 4 [] R R R R R R R R Z2 R R R R Fct bi λ_ bI _ b9=>Tv<|have cB:n.length=df.length:=ah.trans (Ju2 bi).2.2.2.symm;Jo (Oh h<|Jw1 _ ⟨bI,R,Fct,b9,cB⟩<|KM R)))
 rintro _ db ⟨bF,rfl,aE,_,cA⟩
 refine Jp<|Jl3 2 R<|Ob cn λdu ba h=>Jd3 R av ba U179 Z4<|Jc3 R I4 ((av.stp aE).gBool ba)<|Jn 1 R<|Ob h λc4 h co=>Jk4 [1,2,3,4,9,10,11,12] 50 c4 bF db 5 tv ?_ ?_
 exact Bk h (λcP h=>Jn 3 R<|Je4 R<|Jn 1 R<|Oh h<|Jl4 tv R) (λcP h=>Jn 2 R<|Ob h λ_ bb h=>Jd3 R a0 bb U179 Z4<|Jc3 R I4 ((a0.stp<|T6 F u s t ao aE).gBool bb)<|Jn 1 R<|Oh h<|Jl4 tv R)
 rintro _ dc _ ⟨rfl,am,_⟩
 refine Jd<|Ob co λE h cp=>Jt3 [1,2,3,4,9,10,12] (λc e a=>∃b Y V,e=(11,.slice Y E.1.length V)::c/\Stp [3,5] am dc b a/\Oc E6 2 b a 5 Y V E.1/\Oc FT 4 b a 3 p o E.2/\m.length=E.2.length) ?_ ?_
 exact Bk h (λcQ h=>Jy R<|Js<|Oh h<|Jw1 _ ⟨am,G,H,R,Jo3,Fct,Fct,ag⟩<|KM R) (λcQ h=>Jx R<|Jl3 2 R<|Ob h λ_ c0 h=>Jf R (Jg2 aW.rdc c0 U179 Z4 R R ag R) (Ob h λdg bj h=>Jk1 (J:=am) (E:=FT) 3 [] R R R R R R R R Z4 R R R R Fct bj λ_ bK _ _=>Tv<|have cD:m.length=dg.length:=ag.trans (Ju2 bj).2.2.2.symm;Jd (Jm3 2 R<|Ji4 bK 6 [q] R Y30 bS R λdi dl _ bL _ cc=>Tv<|Ob h λ_ c1 h=>Jd4 bL E6 5 [] R Y30 bS R Fct (Sl.srcP (cd _) cc.rdc) bU c1 R λbO bQ _ bM _ ce=>Tv<|Jc 1 R<|Oh h<|Jw1 _ ⟨bM,bO,bQ,R,Fct,ce,Fct,cD⟩<|KM R)))
 rintro _ _ ⟨bJ,Y,V,rfl,_,ca,cb,cC⟩
 refine have h:=cp;Jz (Jp<|Jg3 R ?_)
 have cR:FW .i64 (q+1)=q+1:=wr1 cq (Jn2 af) L.len_le
 rw[cR]
 exact have af:=Jn2 af;Ou h ax (λax=>Ja2 ⟨bJ,q+1,(E.1,E.2,az),Y,V,R,Fct,ca,cb,cC,Fct,cA,by omega,by omega,ax⟩ R)
 rintro _ bt ⟨al,k,X,U,rfl,T,b5,b6,cy,b7,cz,rfl⟩
 refine have h:=yI ck;Jp (Jq<|Jf3 R<|Ob h λbo cE cf=>Jt3 [9] (λc e a=>∃b,∃y:VI×Int×VB×VI,∃aJ aK,e=c/\Stp [3,4,5] al bt b a/\Oc E6 2 b a 5 aJ aK y.1/\Oc FT 4 b a 3 p o y.2.2.1/\m.length=y.2.2.1.length/\Oc E6 2 b a 4 v x y.2.2.2/\n.length=y.2.2.2.length/\bo=FX y) (Jv<|Ju3 [1,2,4,9,10] (λg c e a=>∃b,∃f:VI×Int×VB×VI,∃I K,e=(11,.slice I f.1.length K)::(13,vi f.2.1)::c/\Stp [3,4,5] al bt b a/\Oc E6 2 b a 5 I K f.1/\Oc FT 4 b a 3 p o f.2.2.1/\m.length=f.2.2.1.length/\Oc E6 2 b a 4 v x f.2.2.2/\n.length=f.2.2.2.length/\ci (jm p0 p1 p2) g f=some bo) ⟨_,_,⟨al,(k.1,(0:Int),k.2.1,k.2.2),X,U,R,Jo3,b5,b6,cy,b7,cz,cE⟩,(KM R)⟩ ?_) ?_)
 rintro g _ br ⟨N,f,I,K,rfl,P,ac,aS,a3,aT,a4,h⟩
 rcases g with _|g
 cases h
 refine Ob h λ_ h a2=>Jq<|Jl3 2 R<|Js3 R U30 R R<|Jb 1 R ?_
 refine Bk h (λcH h=>Jy R<|Jc1<|Jt<|Jt ?_) (λcH h=>Jx R<|Js<|Jp<|Jq<|Jv<|Jl3 2 R<|Ob h λdd bc h=>Jd3 R ac.rdc bc U30 Z2<|Jc3 R I2 (ac.rdc.gInt bc)<|Jb 1 R<|Jf3 R<|Ob h λbm cF cg=>Jt3 [1,2,4,9,10,13] (λc e a=>∃b,∃j:VI×Int×VB×VI,∃aa W,e=(11,.slice aa j.1.length W)::c/\Stp [3,4,5] N br b a/\Oc E6 2 b a 5 aa W j.1/\Oc FT 4 b a 3 p o j.2.2.1/\m.length=j.2.2.1.length/\Oc E6 2 b a 4 v x j.2.2.2/\n.length=j.2.2.2.length/\bm=FX j) (Jv<|Ju3 [1,2,4,9,10,13,14] (λg c e a=>∃b,∃d:VI×Int×VB×VI,∃A B,e=(11,.slice A d.1.length B)::(15,vi d.2.1)::c/\Stp [3,4,5] N br b a/\Oc E6 2 b a 5 A B d.1/\Oc FT 4 b a 3 p o d.2.2.1/\m.length=d.2.2.1.length/\Oc E6 2 b a 4 v x d.2.2.2/\n.length=d.2.2.2.length/\ci (eP p0 p1 p2 dd) g d=some bm) ⟨_,_,⟨N,(f.1,(0:Int),f.2.2.1,f.2.2.2),I,K,R,Jo3,ac,aS,a3,aT,a4,cF⟩,(KM R)⟩ ?_) ?_)
 cases h
 exact have h:=a2;Jb1 (Oh h<|Jw1 _ ⟨N,(f.1,f.2.1,f.2.2.1,f.2.2.2),I,K,R,Fct,ac,aS,a3,aT,a4,R⟩<|KM R)
 rintro g _ c6 ⟨aA,d,A,B,rfl,Q,bZ,ad,C,ap,M,h⟩
 rcases g with _|g
 cases h
 refine Ob h λ_ h aw=>Jq<|Jl3 1 R<|Je3 R U177 R Z51 (have ae:=aX.stp (T6 u s t T P Q);Jc3 R I51 (ae.ld 3 R R) (Jn 1 R<|Ob h λdv bd h=>Jd3 R aZ bd U51 Z30 ?_))
 have aq:=aZ.stp (T7 F u s t T P Q)
 obtain⟨_,_,_,cr⟩:=aq.gSl bd
 refine Jc3 R I30 cr<|Js3 R U30 R R<|Jb 1 R ?_
 refine Bk h (λcI h=>Jy R<|Jc1<|Jt<|Jt ?_) (λcI h=>Jx R<|Js<|Jp<|Jq<|Jv<|Jj3<|Je3 R U177 R Z51<|Jc3 R I51 (ae.ld 3 R R)<|Jn 1 R<|Ob h λ_ be h=>Jd3 R aq be U51 Z30 ?_)
 cases h
 exact have h:=aw;Jb1 (Oh h<|Jw1 _ ⟨aA,(d.1,d.2.1,d.2.2.1,d.2.2.2),A,B,R,Fct,bZ,ad,C,ap,M,R⟩<|KM R)
 obtain⟨_,_,aU,cs⟩:=aq.gSl be
 refine Jc3 R I30 cs<|Jn 1 R<|Ob h λde bf h=>Jd3 R aU bf U30 Z2<|Jc3 R I2 (aU.gInt bf)<|Jb 1 R<|Jq<|Jl3 2 R<|Ob h λdx bg h=>Jd3 R L bg U179 Z4<|Jc3 R I4 ((L.stp<|T7 F u s t T P Q).gBool bg)<|Jn 2 R<|Ob h λc5 h ch=>Jk4 [1,2,4,9,10,11,13,14,15,16] 96 c5 aA c6 5 tv ?_ ?_
 exact Bk h (λcJ h=>Jn 2 R<|Ob h λ_ bh h=>Jf R (Jg2 ad.rdc bh U179 Z4 R R C R)<|Jc3 R I4 (ad.rdc.gBool bh)<|Jn 1 R<|Oh h<|Jl4 tv R) (λcJ h=>Jn 3 R<|Je4 R<|Jn 1 R<|Oh h<|Jl4 tv R)
 rintro _ c7 _ ⟨rfl,aB,S⟩
 refine Jn 1 R<|Ob ch λc2 h cj=>Jk4 [1,2,4,9,10,11,13,14,15,16] 103 c2 aB c7 6 tv ?_ ?_
 exact Bk h (λcK h=>Jg4 tv R (Jh4 (haE (ae.stp S).cells) I177 Z177 R)<|Jn 2 R<|Ob h λ_ cS h=>Jw3 R call214 (sw (J:=Mk aB) (p0:=p0) Gct Gct Gct Gct Gct cS)<|Kb λ_ _ _=>Tv<|Jn 2 R<|Oh h<|Jv1 _ tv ⟨R,_,Fct⟩<|KM R) (λcK h=>Je4 R<|Jn 2 R<|Je4 R<|Jn 2 R<|Oh h<|Jl4 tv R)
 rintro _ _ _ ⟨rfl,aC,an⟩
 refine have h:=cj;Jd ?_
 refine Bk h (λcL h=>Jy R<|Js<|Jp<|Jl3 2 R<|Ob h λ_ a6 h=>Jf R (Jg2 ap.rdc a6 U30 Z2 R R M R) (have ar:=ap.stp (S.tr an);Jc3 R I2 (ar.rdc.gInt a6) (Jn 1 R<|Ob h λ_ cT h=>Jf R (Jg2 ar.rdc cT U30 Z2 R R M R) (Ob h λbu bk h=>Jk1 (J:=aC) (E:=E6) 4 [] R R R R R R R R Z2 R R R R ar bk λc8 bz aD aV=>Tv<|have a5:n.length=bu.length:=M.trans (Ju2 bk).2.2.2.symm;Jd (Jj3<|Je3 R U177 R Z30<|Jc3 R I30 ((ae.stp<|T3 S an aD).ld 0 R R)<|Jn 1 R<|Ob h λds a7 h=>Jd3 R aY a7 U30 Z2<|Jc3 R I2 ((aY.stp<|T10 F u s t T P Q S an aD).gInt a7)<|Jn 3 R<|Ob h λc3 h cl=>Jk4 [1,2,4,9,10,11,13,14,15,16] 123 c3 bz c8 6 tv ?_ ?_))))) (λcL h=>Jx R<|Jc1<|Jt<|Jb1<|Jp<|Jg3 R ?_)
 exact Bk h (λcM h=>Jn 2 R<|Ob h λ_ a8 h=>Jf R (Jg2 aV.rdc a8 U30 Z2 R R a5 R)<|Jc3 R I2 (aV.rdc.gInt a8)<|Jn 2 R<|Oh h<|Jl4 tv R) (λcM h=>Jn 3 R<|Je4 R<|Jn 2 R<|Oh h<|Jl4 tv R)
 rintro _ c9 _ ⟨rfl,ak,_⟩
 refine Jd<|Ob cl λD h cm=>Jt3 [1,2,4,9,10,13,14,15] (λc e a=>∃b ab Z,e=(11,.slice ab D.1.length Z)::c/\Stp [3,5] ak c9 b a/\Oc E6 2 b a 5 ab Z D.1/\Oc FT 4 b a 3 p o D.2/\m.length=D.2.length) ?_ ?_
 exact Bk h (λcN h=>Jy R<|Js<|Oh h<|Jw1 _ ⟨ak,A,B,R,Jo3,Fct,Fct,C⟩<|KM R) (λcN h=>Jx R<|Jl3 2 R<|Ob h λ_ cU h=>Jf R (Jg2 ad.rdc cU U179 Z4 R R C R) (Ob h λdh bl h=>Jk1 (J:=ak) (E:=FT) 3 [] R R R R R R R R Z4 R R R R Fct bl λ_ bB _ _=>Tv<|have cx:m.length=dh.length:=C.trans (Ju2 bl).2.2.2.symm;Jd (Jm3 2 R<|Ji4 bB 6 [de] R Y30 bS R λdj dk _ bD _ b3=>Tv<|Ob h λ_ cV h=>Jd4 bD E6 5 [] R Y30 bS R Fct (Sl.srcP (cd _) b3.rdc) bU cV R λbR bT _ bE _ b4=>Tv<|Jc 1 R<|Oh h<|Jw1 _ ⟨bE,bR,bT,R,Fct,b4,Fct,cx⟩<|KM R)))
 rintro _ _ ⟨bA,ab,Z,rfl,_,b1,b2,cw⟩
 refine have h:=cm;Jz (Jp<|Jg3 R ?_)
 cases h
 exact Ja2 ⟨bA,(D.1,((FW .i64<|d.2.1+1):Int),D.2,bu),ab,Z,R,Fct,b1,b2,cw,Fct,a5,aw⟩ R
 cases h
 exact Ja2 ⟨aC,(d.1,((FW .i64<|d.2.1+1):Int),d.2.2.1,d.2.2.2),A,B,R,Fct,Fct,Fct,C,Fct,M,aw⟩ R
 rintro _ _ ⟨bx,j,aa,W,rfl,_,bW,bX,cu,bY,cv,rfl⟩
 refine have h:=yI cg;Jz (Jp<|Jg3 R ?_)
 cases h
 exact Ja2 ⟨bx,(j.1,((FW .i64<|f.2.1+1):Int),j.2.2.1,j.2.2.2),aa,W,R,Fct,bW,bX,cu,bY,cv,a2⟩ R
 rintro _ _ ⟨bw,y,aJ,aK,rfl,_,_,_,ct,_,_,rfl⟩
 exact have h:=yI cf;Jp (Jf3 R<|Ju<|Jb2 (l:=[.tmp 8]) results217 (Jq2 R R) R<|Oh h<|⟨(λbV=>ren [(3,2)]<|bw bV),p,o,(by simp only[ct]),Fct,Fct⟩)
end
end Go.Proofs.YtldlmopdhmaceaaGreatDoor
