/- The walks, part 5. By program. -/
import Derived.Test.YtfombamjdkihnaaGreatFns2EI
import Derived.Test.YtfombamjdkihnaaGreatFns3EI
set_option linter.unusedVariables false
set_option linter.unusedSimpArgs false
open Go.Wk.Ep renaming bool → EQ, fz → EZ, own → ER
open Int renaming toNat → ES
open Go.IntKind renaming wrap → ET
open Option.some renaming inj → EU
open Go.Wk.Sl renaming srcP → EV
open Sum renaming inr → EW
namespace Go.Proofs.YtfombamjdkihnaaGreat
open Tryz
open Go Go.Wk Go.Proofs
set_option maxRecDepth 100000
set_option maxHeartbeats 1000000
section
variable {w:World}{J:Col}
theorem qz {a d c b}{p0:Clause}{c0:Sig}{e}(n:Rd Ri J w 0 a d p0.A) (o:Rd Ri J w 0 c b p0.B) (k:Bc J w 0 e 28 [vi c0.In,vi c0.Out]){r:Bool}(h:fL p0 c0=some r):Ret prog 101 [.agg #[vi p0.Kind,.slice a p0.A.length d,.slice c p0.B.length b],.pointer (some ⟨e,0,none⟩)] w (Pvb J w r):=by
 exact Jp3 J func101 R ntmps101 R λp=>Jj3<|Jx3 J 2 R λ_ _ g i j=>Tv<|Jb 1 R<|Jj3<|Jg4 tv R (Jh4 (haE (k.stp i).cells) I28 Z28 R)<|Jg4 tv R (Jh4 (haE j.cells) I54 Z54 R)<|Ob h λ_ m h=>Jw3 R call102 (uB (J:=Mk g) (p0:=c0) (p1:=p0) Gct Gct m)<|Kb λ_ f _=>Tv<|Jb 2 R<|Ju<|Jb2 (l:=[.tmp 3]) results101 (Jq2 R R) R<|Oh h<|⟨f,R,Fct⟩
theorem ss {H P}{p0:VP}{I Q}{p1:VI}{p2:Int}(K:Rd Pair.rp J w 0 H P p0) (C:Rd Ri J w 0 I Q p1){r:VI}(h:kl p0 p1 p2=some r):Ret prog 62 [.slice H p0.length P,.slice I p1.length Q,vi p2] w (Pvs E6 2 J w r):=by
 refine Jp3 J func62 R ntmps62 R λaV=>Jf3 R<|Jj3<|Jc4 J E6 2 R Y31 bG R λak ah _ V F _=>Tv<|Jc4 V E6 3 R Y31 bG R λaj al S x G az=>Tv<|Jb 2 R<|Jq<|Jl3 1 R<|Js3 R U31 R R<|Jb 1 R<|Ob h λO aE aA=>Jx1 (λg a=>∃b,∃e:VI×VI,∃B A z y,g=[(7,.slice B e.1.length A),(8,.slice z e.2.length y)]/\Stp [2,3] x S b a/\Oc E6 2 b a 2 B A e.1/\Oc E6 2 b a 3 z y e.2/\O=EW e) (Jv<|Ju3 [0,2,13,14] (λn u g a=>∃b f,∃c:VI×VI,∃m i k j,g=(7,.slice m c.1.length i)::(8,.slice k c.2.length j)::(15,vi f)::u/\Stp [2,3] x S b a/\Oc E6 2 b a 2 m i c.1/\Oc E6 2 b a 3 k j c.2/\0<=f/\ES ((p1.length:Int)-f)=n/\cntM (g6 p0 p1 p2) n f c=some O) ⟨_,_,⟨x,0,(([]:VI),([]:VI)),ak,ah,aj,al,R,Jo3,Fct,az,(by decide),(by simp),aE⟩,(KM R)⟩ ?_) ?_
 rintro n _ _ ⟨D,f,c,m,i,k,j,rfl,E,ao,ap,L,t,h⟩
 rcases n with _|n
 exact Jf3 R<|Jq<|Jx2 R (dcf t)<|Jc1<|Jt<|Jt<|Jb1<|Oh h<|Jw1 _ ⟨D,(c.1,c.2),m,i,k,j,R,Fct,ao,ap,R⟩<|KM R
 refine Ob h λaW h aC=>Jf3 R<|Jq<|Jw2 R (dct t)<|Js<|Jp<|Jq<|Jv<|Jj3<|Ob h λT M h=>Jd3 R C M U31 Z2<|Jc3 R I2 ((C.stp<|T3 F G E).gInt M)<|Jb 1 R<|Jl3 2 R<|Ob h λ_ N h=>Jd3 R K N U56 Z96<|Je3 R U96 R Z31 ?_
 obtain⟨_,aF,aD⟩:=((K.stp (T3 F G E))).gSt N
 obtain⟨aQ,aX,aR,aY,rfl,aT,aU⟩:=Pair.un aF
 refine Jc3 R I31 (λa aH=>aD a aH 1 _ R)<|Jn 1 R<|Ob h λaZ aI h=>Jw3 R C38 (bT (J:=Mk D) Gct aI)<|Kb λaM v _=>Tv<|Jd<|Ob h λd h aB=>Jt3 [0,2,13,14,15] (λu g a=>∃b o q p s,g=(7,.slice o d.1.length q)::(8,.slice p d.2.length s)::u/\Stp [2,3] v aM b a/\Oc E6 2 b a 2 o q d.1/\Oc E6 2 b a 3 p s d.2) ?_ ?_
 exact Bk h (λaG h=>Jy R<|Jm3 2 R<|Ji4 v 6 [T] R Y31 bG R λaN aS _ Z _ aw=>Tv<|Ob h λ_ aK h=>Jd4 Z E6 3 [] R Y31 bG R Fct (EV (bO _) aw.rdc) bJ aK R λae ai _ aa _ ax=>Tv<|Jc 1 R<|Oh h<|Jw1 _ ⟨aa,m,i,ae,ai,R,Fct,Fct,ax⟩<|KM R) (λaG h=>Jx R<|Jm3 2 R<|Ji4 v 6 [T] R Y31 bG R λaO aP _ X _ au=>Tv<|Ob h λ_ aJ h=>Jd4 X E6 2 [] R Y31 bG R Fct (EV (bO _) au.rdc) bJ aJ R λac af _ Y _ av=>Tv<|Jc 1 R<|Oh h<|Jw1 _ ⟨Y,ac,af,k,j,R,Fct,av,Fct⟩<|KM R)
 rintro _ _ ⟨W,o,q,p,s,rfl,_,aq,ar⟩
 refine have h:=aB;Jz (Jp<|Jg3 R<|wr2 L t C.len_le ▸ ?_)
 cases h
 exact Ja2 ⟨W,f+1,(d.1,d.2),o,q,p,s,R,Fct,aq,ar,nxz L,nxm t,aC⟩ R
 rintro _ _ ⟨U,e,B,A,z,y,rfl,_,am,an,rfl⟩
 exact have h:=yI aA;Jp (Jl3 2 R<|Ob h λ_ aL h=>Jd4 U E6 2 [] R Y31 bG R am (EV (bO _) an.rdc) bJ aL R λag ad _ ab _ ay=>Tv<|Jb 1 R<|Ju<|Jb2 (l:=[.tmp 6]) results62 (Jq2 R R) R<|Oh h<|⟨ab,ag,ad,R,Fct,ay⟩)
theorem em {n z}{p0:VL}{c1_0:Int}{p o}{c:VI}{q s}(g:Rd Place.rp J w 0 n z p0) (M:Rd Ri J w 0 p o c) (N:Bc J w 0 q 2 [vi c1_0]) (O:Bc J w 0 s 31 [.slice p c.length o]){r:Int}(h:cj p0 c1_0 c=some r):Ret prog 170 [.slice n p0.length z,.func (.func 171) #[] #[.pointer (some ⟨q,0,none⟩),.pointer (some ⟨s,0,none⟩)]] w (Pvi J w r):=by
 refine Jp3 J func170 R ntmps170 R λP=>Jf3 R<|Jq<|Jl3 1 R<|Js3 R U67 R R<|Jb 1 R<|Ob h λy E t=>Jt3 [1] (λe f i=>∃j,f=e/\Stp [] J w j i/\y=EW ()) (Jv<|Ju3 [0,1,7] (λb e f i=>∃j a,f=(8,vi a)::e/\Stp [] J w j i/\0<=a/\ES ((p0.length:Int)-a)=b/\cntM (cc p0 c1_0 c) b a ()=some y) ⟨_,_,⟨J,0,R,Jo3,(by decide),(by simp),E⟩,(KM R)⟩ ?_) ?_
 rintro b _ _ ⟨m,a,rfl,B,u,d,h⟩
 rcases b with _|b
 exact Jf3 R<|Jq<|Jx2 R (dcf d)<|Jc1<|Jt<|Jt<|Jb1<|Oh h<|Jw1 _ ⟨m,R,Fct,R⟩<|KM R
 refine Ob h λQ h v=>Jf3 R<|Jq<|Jw2 R (dct d)<|Js<|Jp<|Jq<|Jv<|Jf3 R<|Jl3 3 R<|Ob h λI x h=>Jd3 R g x U67 Z76 ?_
 obtain⟨_,F,D⟩:=((g.stp B)).gSt x
 obtain⟨K,S,rfl,L⟩:=Place.un F
 refine Jg4 tv R (Jh4 (haE D) I76 Z76 R)<|Ob h λT H h=>WO.callV R R R R R R R R call171 (tF (J:=Mk m) (p0:=I) Gct Gct Fct Fct H) ?_
 rintro _ _ ⟨_,rfl,C⟩
 refine Im C 2 R (λk _ _=>Tv<|Jd ?_)
 refine Bk h (λG h=>Jy R<|Js<|Jz<|Jp<|Jg3 R<|wr2 u d g.len_le ▸ ?_) (λG h=>Jx R<|Jf3 R<|Ju<|Ja1<|Jw<|Jw ?_)
 cases h
 exact Ja2 ⟨k,a+1,R,Fct,nxz u,nxm d,v⟩ R
 cases h
 obtain rfl:=EU v
 exact have h:=yL t;Ja1 (Jr2<|Jw<|Jb2 (l:=[.tmp 4]) results170 (Jq2 R R) R<|Oh h<|⟨k,R,Fct⟩)
 rintro _ _ ⟨A,rfl,_,rfl⟩
 exact have h:=yI t;Jp (Jf3 R<|Ju<|Jb2 (l:=[.tmp 4]) results170 (Jq2 R R) R<|Oh h<|⟨A,R,Fct⟩)
theorem su {u F}{p0:VP}{v G}{p1:VI}{p2:Int}(x:Rd Pair.rp J w 0 u F p0) (p:Rd Ri J w 0 v G p1){r:Int}(h:ko p0 p1 p2=some r):Ret prog 64 [.slice u p0.length F,.slice v p1.length G,vi p2] w (Pvi J w r):=by
 refine Jp3 J func64 R ntmps64 R λar=>Jf3 R<|Jf3 R<|Jq<|Jl3 1 R<|Js3 R U31 R R<|Jb 1 R<|Ob h λC V N=>Jx1 (λb a=>∃c,∃j:Int×Int,b=[(7,vi j.1),(8,vi j.2)]/\Stp [] J w c a/\C=EW j) (Jv<|Ju3 [0,2,11,12] (λg f b a=>∃c e,∃d:Int×Int,b=(7,vi d.1)::(8,vi d.2)::(13,vi e)::f/\Stp [] J w c a/\0<=e/\ES ((p1.length:Int)-e)=g/\cntM (g7 p0 p1 p2) g e d=some C) ⟨_,_,⟨J,0,(((-1):Int),((-1):Int)),R,Jo3,(by decide),(by simp),V⟩,(KM R)⟩ ?_) ?_
 rintro g _ _ ⟨s,e,d,rfl,t,y,i,h⟩
 rcases g with _|g
 exact Jf3 R<|Jq<|Jx2 R (dcf i)<|Jc1<|Jt<|Jt<|Jb1<|Oh h<|Jw1 _ ⟨s,(d.1,d.2),R,Fct,R⟩<|KM R
 refine Ob h λau h S=>Jf3 R<|Jq<|Jw2 R (dct i)<|Js<|Jp<|Jq<|Jv<|Jl3 1 R<|Ob h λ_ z h=>Jd3 R p z U31 Z2<|Jc3 R I2 ((p.stp t).gInt z)<|Jb 2 R<|Jq<|Jl3 2 R<|Ob h λ_ A h=>Jd3 R x A U56 Z96<|Je3 R U96 R Z31 ?_
 have o:=x.stp t
 obtain⟨_,W,T⟩:=(o).gSt A
 obtain⟨aj,av,ak,aw,rfl,an,ao⟩:=Pair.un W
 refine Jc3 R I31 (λa q=>T a q 0 _ R)<|Jn 1 R<|Ob h λaz ad h=>Jw3 R C38 (bT (J:=Mk s) Gct ad)<|Kb λag k L=>Tv<|Jd<|Ob h λD h O=>Jt3 [0,2,8,9,10,11,12,13] (λf b a=>∃c,b=(7,vi D)::f/\Stp [] k ag c a) ?_ ?_
 exact Bk h (λY h=>Jy R<|Js<|Oh h<|Jw1 _ ⟨k,R,Jo3⟩<|KM R) (λY h=>Jx R<|Jg3 R<|Oh h<|Jw1 _ ⟨k,R,Jo3⟩<|KM R)
 rintro _ _ ⟨H,rfl,M⟩
 refine Jp<|Jl3 2 R<|Ob O λ_ B h=>Jd3 R o B U56 Z96<|Je3 R U96 R Z31 ?_
 obtain⟨_,X,U⟩:=((o.stp (L.tr M))).gSt B
 obtain⟨al,ax,am,ay,rfl,ap,aq⟩:=Pair.un X
 refine Jc3 R I31 (λa q=>U a q 1 _ R)<|Jn 1 R<|Ob h λaA ae h=>Jw3 R C38 (bT (J:=Mk H) Gct ae)<|Kb λah m _=>Tv<|Jd<|Ob h λE h P=>Jt3 [0,2,7,11,12,13] (λf b a=>∃c,b=(8,vi E)::f/\Stp [] m ah c a) ?_ ?_
 exact Bk h (λZ h=>Jy R<|Js<|Oh h<|Jw1 _ ⟨m,R,Jo3⟩<|KM R) (λZ h=>Jx R<|Jg3 R<|Oh h<|Jw1 _ ⟨m,R,Jo3⟩<|KM R)
 rintro _ _ ⟨I,rfl,_⟩
 refine have h:=P;Jz (Jp<|Jg3 R<|wr2 y i p.len_le ▸ ?_)
 cases h
 exact Ja2 ⟨I,e+1,(D,E),R,Fct,nxz y,nxm i,S⟩ R
 rintro _ ai ⟨K,j,rfl,_,rfl⟩
 refine have h:=yI N;Jp (Jq<|Jv<|Jl3 3 R<|Ob h λaf h Q=>Jk4 [7,8] 41 af K ai 3 tv ?_ ?_)
 exact Bk h (λaa h=>Jn 3 R<|Oh h<|Jl4 tv R) (λaa h=>Jn 3 R<|Oh h<|Jl4 tv R)
 rintro _ _ _ ⟨rfl,n,_⟩
 refine have h:=Q;Jb 1 R ?_
 refine Bk h (λab h=>Jy R<|Jf3 R ?_) (λab h=>Jx R<|Jf3 R<|Ju<|Ja1<|Jw<|Jb2 (l:=[.tmp 6]) results64 (Jq2 R R) R<|Oh h<|⟨n,R,Fct⟩)
 exact Bk h (λac h=>Jy R<|Js<|Jz<|Jp<|Jf3 R<|Ju<|Jb2 (l:=[.tmp 6]) results64 (Jq2 R R) R<|Oh h<|⟨n,R,Fct⟩) (λac h=>Jx R<|Jf3 R<|Ju<|Ja1<|Jw<|Jb2 (l:=[.tmp 6]) results64 (Jq2 R R) R<|Oh h<|⟨n,R,Fct⟩)
theorem sy (n:Nat):∀{w:World}{J:Col}{L H F G I B E D}{p0:solver}{u y}{p1:VB}{M}(Z:Rd Ri J w 0 L H p0.game.Arena.Owner) (aa:Rd Rs J w 0 F G p0.game.Arena.Next) (ab:Rd Ri J w 0 I B p0.game.Prio) (ac:Rd Rs J w 0 E D p0.preds) (aG:Rd Rp.bool J w 0 u y p1) (ad:Bc J w 0 M 150 [.slice L p0.game.Arena.Owner.length H,.slice F p0.game.Arena.Next.length G,.slice I p0.game.Prio.length B,.slice E p0.preds.length D]){r:VB×Int}(h:dT n p0 p1=some r),Ret prog 111 [.pointer (some ⟨M,0,none⟩),.slice u p1.length y] w (λck a=>∃b aO aP,ck= .tuple #[.slice aO r.1.length aP,vi r.2]/\Ent J w b a/\Rd Rp.bool b a 0 aO aP r.1):=by
 induction n with
 |zero=>
  intro w J L H F G I B E D p0 u y p1 M Z aa ab ac aG ad r h
  cases h
 |succ n ca=>
  intro w J L H F G I B E D p0 u y p1 M Z aa ab ac aG ad r h
  have h:d9 (dT n) p0 p1=some r:=h
  unfold d9 at h
  refine Jp3 J func111 R ntmps111 R λcR=>Jf3 R<|Jl3 1 R<|Ob h λcs bX h=>Jw3 R call112 (iq (J:=Mk J) Gct bX) ?_
  rintro _ _ ⟨_,cN,cO,rfl,bn,bG⟩
  obtain⟨al,t,ce⟩:=Ji bn 2 R
  refine Tv<|Jb 1 R<|Jq<|Jl3 1 R<|Js3 R U31 R R<|Jb 1 R ?_
  revert h
  cases cS:((cs.length:Int)==0)
  refine JF λh=>Jy R<|Js<|Jp<|Jl3 1 R<|Jf R (cM R R)<|Je3 R U150 R Z66 ?_
  have W:=ad.stp t
  refine Jg4 tv R (Jh4 (haE<|W.lds 0 3 R) I66 Z66 R)<|Jn 1 R<|Ob h λah bY h=>?_
  have bz:=Z.stp t
  have bA:=aa.stp t
  have X:=ab.stp t
  refine Jw3 R call173 (yC (J:=Mk al) (p0:=p0.game) Gct Gct Gct (Jn3 (bG.mx (bI _) ce R (R:2+2=4)).rdc) bY) ?_
  rintro _ _ ⟨_,rfl,bm⟩
  obtain⟨aZ,j,_⟩:=Ji bm 5 R
  refine Tv<|Jb 1 R<|Jl3 1 R<|Jf R (uf R R R (by decide))<|Jb 1 R<|Jj3<|Jc4 aZ EQ 7 R Y129 cI R λcH cJ _ a0 k bE=>Tv<|Jn 1 R<|Ob h λct bZ h=>Jd4 a0 EQ 7 [] R Y129 cI R bE (EV zD Fct) bJ bZ R λbb ba cp ak m bF=>Tv<|Jb 1 R<|Ob h λcj bV aH=>?_
  clear h
  refine Jv<|Ju3 [0,1,7,8] (λc d f a=>∃b,∃v:VB,∃K C,f=(9,.slice K v.length C)::d/\Stp [8,14,20,25] ak cp b a/\Oc EQ 4 b a 7 K C v/\bQ (fo (dT n) p0 p1 ah) c v=some cj) ⟨_,_,⟨ak,ct,bb,ba,R,Jo3,bF,bV⟩,(KM R)⟩ ?_
  rintro c _ _ ⟨a1,v,K,C,rfl,g,Y,h⟩
  rcases c with _|c
  cases h
  obtain⟨_,h,af⟩:=BI h;unfold fo at h
  refine Jv<|Jl3 1 R<|Js3 R U129 R R<|Ob h λA b0 h=>Jl1 (J:=a1) (E:=EQ) (z:=(false:Bool)) 8 R R R R R R R Y129 cI R R R R R (λ_ _ _=>R) (Jv2 b0) λay ax aQ S e az=>Tv<|Jb 1 R<|Jq<|Jl3 1 R<|Js3 R U129 R R<|Jb 1 R<|Ob h λaM bW bR=>?_
  clear h
  refine Jt3 [0,1,7,8,9,10] (λd f a=>∃b,∃P:VB,f=d/\Stp [8] S aQ b a/\Oc EQ 4 b a 8 ay ax P/\A.length=P.length/\aM=EW P) ?_ ?_
  refine Jv<|Ju3 [0,1,7,8,9,10,37] (λc d f a=>∃b s,∃x:VB,f=(38,vi s)::d/\Stp [8] S aQ b a/\Oc EQ 4 b a 8 ay ax x/\A.length=x.length/\0<=s/\ES ((A.length:Int)-s)=c/\cntM (fp p0 ah v) c s x=some aM) ⟨_,_,⟨S,0,A,R,Jo3,az,R,(by decide),(by simp),bW⟩,(KM R)⟩ ?_
  rintro c _ cq ⟨am,s,x,rfl,au,aA,ag,aI,N,h⟩
  rcases c with _|c
  have O:=h;obtain⟨ch,h⟩:=exq O
  have ae:=dcf N
  refine Jf3 R<|Jq<|Jx2 R ae<|Jc1<|Jt<|Jt ?_
  cases h
  have h:=O
  refine Jb1 ?_
  cases h
  exact Jw1 _ ⟨am,x,R,Fct,aA,ag,R⟩<|KM R
  obtain⟨ch,h,O⟩:=BI h;unfold fp at h
  have ae:=dct N
  refine Jf3 R<|Jq<|Jw2 R ae<|Js<|Jp<|Jq<|Jv<|Jf3 R<|Jm3 4 R<|Ob h λcu aJ h=>Jd3 R Y.rdc aJ U129 Z4<|Jc3 R I4 ((Y.stp<|e.tr au).rdc.gBool aJ)<|Jn 1 R<|Ob h λci h bS=>Jk4 [0,1,7,8,9,10,37,38,41,42] 58 ci am cq 11 tv ?_ ?_
  revert h
  cases cW:cu
  refine JF λh=>Jn 4 R<|Je4 R<|Jn 2 R<|Je4 R<|Jn 3 R ?_
  cases h
  exact Jl4 tv R
  have an:=(T6 j k m g e au)
  refine JT λh=>Jn 1 R<|Jf R (cM R R)<|Je3 R U150 R Z66<|Je3 R U66 R Z31<|Jc3 R I31 ((W.stp an).ld 2 R R)<|Jn 1 R<|Ob h λ_ aK h=>Jd3 R X aK U31 Z2<|Jc3 R I2 ((X.stp an).gInt aK)<|Jn 3 R ?_
  cases h
  exact Jl4 tv R
  rintro _ _ _ ⟨rfl,a3,_⟩
  have h:=bS
  refine Ob h λ_ b1 h=>Jf R (Jg2 aA.rdc b1 U129 Z4 R R ag R)<|Ob h λaR aL h=>Jk1 (J:=a3) (E:=EQ) 8 [] R R R R R R R R Z4 R R R R Fct aL λ_ a4 _ bK=>Tv<|?_
  have bU:A.length=aR.length:=ag.trans (Ju2 aL).2.2.2.symm
  refine Jo<|Jz<|Jp<|Jg3 R<|wr2 aI N az.len_le ▸ ?_
  cases h
  exact Ja2 ⟨a4,s+1,aR,R,Fct,bK,bU,nxz aI,nxm N,O⟩ R
  rintro _ _ ⟨a2,P,rfl,i,bH,bT,rfl⟩
  have h:=yI bR
  refine Jp<|Jl3 5 R<|Ob h λ_ b2 h=>?_
  have aB:=bz.stp (T6 j k m g e i)
  have aC:=bA.stp (T6 j k m g e i)
  have aD:=X.stp (T6 j k m g e i)
  have aE:=ac.stp (T7 t j k m g e i)
  have aF:=Y.stp (e.tr i)
  have bL:=W.stp (T6 j k m g e i)
  refine Jw3 R call174 (Ret.cast (by simp only[bT,List.cons_append,List.nil_append])<|mT (J:=Mk a2) (p0:=p0) (Jn3 aB) (Jn3 aC) (Jn3 aD) (Jn3 aE) (Jn3 aF.rdc) (Jn3 bH.rdc) (bL.map (mp [] 0) R R) b2) ?_
  rintro _ _ ⟨_,cL,cP,rfl,bo,bM⟩
  obtain⟨a5,o,cf⟩:=Ji bo 9 R
  refine Tv<|Ob h λ_ b3 h=>?_
  have bN:=aF.stp o
  refine Jw3 R call113 (iK (J:=Mk a5) Gct (Jn3 (bM.mx cQ cf R (R:9+2=11)).rdc) b3) ?_
  rintro _ cr ⟨_,cG,cK,rfl,bp,bO⟩
  obtain⟨a6,p,cg⟩:=Ji bp 12 R
  refine Tv<|Jb 1 R<|Jl3 2 R ?_
  obtain⟨a7,q,cz⟩:=dg a6 cr 14
  have bq:=Sl.st cz (bO.mx cQ cg R (R:12+2=14)).rdc
  refine Ob h λcv b4 h=>?_
  have br:=aB.stp (T3 o p q)
  have bs:=aC.stp (T3 o p q)
  have bt:=aD.stp (T3 o p q)
  have bu:=aE.stp (T3 o p q)
  refine Jw3 R call111 (ca (J:=λV=>mp [] 1<|a7 V) (p0:=p0) (Jm2 br (mp [] 1) R R) (Jm2 bs (mp [] 1) R R) (Jm2 bt (mp [] 1) R R) (Jm2 bu (mp [] 1) R R) (Jm2 bq (mp [] 1) R R) Fct b4) ?_
  rintro _ cl ⟨_,bd,bf,rfl,bg,bv⟩
  obtain⟨Q,ao,_,cA⟩:=Jj bg 15 R
  refine Tv<|?_
  have bw:=bv.mx cA
  refine Jb 5 R<|Jf3 R<|Jq<|Jf3 R<|Ob h λaN h bP=>Jt3 [0,1,7,8,9] (λd f a=>∃b T U,f=(15,.slice T aN.length U)::d/\Stp [20] Q cl b a/\Rd Rp.bool b a 0 T U aN) ?_ ?_
  revert h
  cases cT:(cv.2==(Int.tmod ah 2))
  refine JF λh=>Jy R<|Js ?_
  cases h
  exact Jw1 _ ⟨Q,bd,bf,R,Jo3,bw⟩<|KM R
  refine JT λh=>Jx R<|Jm3 2 R<|Ob h λ_ b5 h=>Jw3 R call113 (iK (J:=Mk Q) Gct Gct b5) ?_
  rintro _ cm ⟨_,bc,be,rfl,bh,bx⟩
  obtain⟨aT,_,cb⟩:=Ji bh 18 R
  refine Tv<|Jc 1 R ?_
  obtain⟨aU,_,cB⟩:=dg aT cm 20
  cases h
  exact Jw1 _ ⟨aU,bc,be,R,Fct,(Sl.st cB (bx.mx cQ cb R (R:18+2=20)).rdc)⟩<|KM R
  rintro _ _ ⟨aS,T,U,rfl,ap,_⟩
  have h:=bP
  refine Jp<|Jq<|Jl3 1 R<|Ob h λcw b6 h=>Jw3 R call175 (ft (J:=Mk aS) Gct b6) ?_
  rintro _ cn ⟨_,rfl,bi⟩
  obtain⟨ai,aq,_⟩:=Ji bi 18 R
  refine Tv<|Jb 1 R ?_
  revert h
  cases cU:(!cw)
  refine JF λh=>Jy R<|Js<|Jp<|Jl3 6 R<|Ob h λ_ b7 h=>?_
  refine Jw3 R call174 (mT (J:=Mk ai) (p0:=p0) Gct Gct Gct Gct Gct Gct Fct b7) ?_
  rintro _ _ ⟨_,cE,cF,rfl,bj,bB⟩
  obtain⟨aW,a8,cc⟩:=Ji bj 20 R
  refine Tv<|Ob h λcx b8 h=>Jw3 R call113 (iK (J:=Mk aW) Gct (Jn3 (bB.mx cQ cc R (R:20+2=22)).rdc) b8) ?_
  rintro _ _ ⟨_,av,aw,rfl,bk,bC⟩
  obtain⟨aX,a9,cd⟩:=Ji bk 23 R
  refine Tv<|?_
  have bD:=bC.mx cQ cd R (R:23+2=25)
  refine Jb 1 R<|Jl3 1 R<|Ob h λcy b9 h=>Jw3 R call175 (ft (J:=Mk aX) Gct b9) ?_
  rintro _ co ⟨_,rfl,bl⟩
  obtain⟨aj,ar,_⟩:=Ji bl 26 R
  refine Tv<|Jb 1 R ?_
  revert h
  cases cV:(!cy)
  refine JF λh=>Jy R<|Js<|Jz ?_
  cases h
  exact Ja2 ⟨(λV=>ren [(25,7)]<|aj V),cx,av,aw,R,(Jz2 ((T12 g e i o p q ao ap aq a8 a9 ar).wk R) [(25,7)] R),Fct,af⟩ R
  refine JT λh=>Jx R<|Jf3 R<|Ju<|Ja1<|Jw ?_
  cases h
  obtain rfl:=EU af
  have h:=yL aH
  refine Ja1 ?_
  obtain⟨aY,_,cD⟩:=dg aj co 25
  refine Jb2 (l:=[.tmp 4,.tmp 5]) results111 (Jq2 R<|Jq2 R R) R ?_
  cases h
  exact⟨aY,av,aw,R,Fct,(Sl.st cD (bD.stp ar).rdc)⟩
  refine JT λh=>Jx R<|Jf3 R<|Ju<|Jw<|Ja1<|Jw ?_
  cases h
  obtain rfl:=EU af
  have h:=yL aH
  refine Ja1 ?_
  obtain⟨aV,_,cC⟩:=dg ai cn 7
  refine Jb2 (l:=[.tmp 4,.tmp 5]) results111 (Jq2 R<|Jq2 R R) R ?_
  cases h
  exact⟨aV,K,C,R,Fct,(Sl.st cC (bN.stp<|T5 p q ao ap aq).rdc)⟩
  refine JT λh=>Jx R<|Jf3 R<|Ju<|Jw<|Jb2 (l:=[.tmp 4,.tmp 5]) results111 (Jq2 R<|Jq2 R R) R ?_
  cases h
  exact⟨al,u,y,R,Fct,Fct⟩
theorem eF {a c}{p0:VI}{c1_0:Int}{b}(f:Rd Ri J w 0 a c p0) (g:Bc J w 0 b 2 [vi c1_0]){r:Bool}(h:cn p0 c1_0=some r):Ret prog 132 [.slice a p0.length c,.func (.func 133) #[] #[.pointer (some ⟨b,0,none⟩)]] w (Pvb J w r):=by
 exact Jp3 J func132 R ntmps132 R λi=>Jf3 R<|Jl3 2 R<|Ob h λ_ e h=>Jw3 R call26 (eU (J:=Mk J) Gct Fct e)<|Ki λ_ d _=>Tv<|Jb 2 R<|Ju<|Jb2 (l:=[.tmp 4]) results132 (Jq2 R R) R<|Oh h<|⟨d,R,Fct⟩
theorem pa {aL aJ aG ay aM aO aQ aK aP aI}{p0:l7Game}{aE bo}{p1:VB}{p2:Int}{aF bp}{ai:VB}(aX:Rd Ri J w 0 aL aJ p0.owner) (dn:Rd Ri J w 0 aG ay p0.prio) (dp:Rd Rs J w 0 aM aO p0.next) (aY:Rd Rs J w 0 aQ aK p0.prev) (dq:Rd Ri J w 0 aP aI p0.pick) (L:Rd Rp.bool J w 0 aE bo p1) (aZ:Rd Rp.bool J w 0 aF bp ai){r:VB}(h:j8 p0 p1 p2 ai=some r):Ret prog 224 [.agg #[.slice aL p0.owner.length aJ,.slice aG p0.prio.length ay,.slice aM p0.next.length aO,.slice aQ p0.prev.length aK,.slice aP p0.pick.length aI],.slice aE p1.length bo,vi p2,.slice aF ai.length bp] w (Pvs EQ 4 J w r):=by
 refine Jp3 J func224 R ntmps224 R λdr=>Jj3<|Jx3 J 2 R λ_ _ bB F aW=>Tv<|Jb 1 R<|Jl3 1 R<|Js3 R U129 R R<|Ob h λm cX h=>Jl1 (J:=bB) (E:=EQ) (z:=(false:Bool)) 3 R R R R R R R Y129 cI R R R R R (λ_ _ _=>R) (Jv2 cX) λo p _ bH u _=>Tv<|Jb 1 R<|Jl3 1 R<|Js3 R U129 R R<|Ob h λn cY h=>Jl1 (J:=bH) (E:=E6) (z:=(0:Int)) 4 R R R R R R R Y31 bG R R R R R (λ_ _ _=>R) (Jv2 cY) λx v _ bu s _=>Tv<|Jb 1 R<|Jj3<|Jc4 bu E6 5 R Y31 bG R λbV bU br aj t b1=>Tv<|Jb 1 R<|Jq<|Jf3 R<|Ob h λbm cG cj=>Jt3 [1,2,4,9,10] (λc e a=>∃b,∃k:VI×VB×VI,∃ab X,e=(11,.slice ab k.1.length X)::c/\Stp [3,4,5] aj br b a/\Oc E6 2 b a 5 ab X k.1/\Oc EQ 4 b a 3 o p k.2.1/\m.length=k.2.1.length/\Oc E6 2 b a 4 x v k.2.2/\n.length=k.2.2.length/\bm=EW k) (Jv<|Ju3 [1,2,3,4,9,10] (λg c e a=>∃b q,∃i:VI×VB×VI,∃I G,e=(11,.slice I i.1.length G)::(12,vi q)::c/\Stp [3,4,5] aj br b a/\Oc E6 2 b a 5 I G i.1/\Oc EQ 4 b a 3 o p i.2.1/\m.length=i.2.1.length/\Oc E6 2 b a 4 x v i.2.2/\n.length=i.2.2.length/\0<=q/\ES ((p1.length:Int)-q)=g/\cntM (gu p0 p1 ai) g q i=some bm) ⟨_,_,⟨aj,0,(([]:VI),m,n),bV,bU,R,Jo3,b1,Fct,R,Fct,R,(by decide),(by simp),cG⟩,(KM R)⟩ ?_) ?_
 rintro g _ db ⟨O,q,i,I,G,rfl,ao,b9,aV,ag,au,ah,cp,a0,h⟩
 rcases g with _|g
 exact Jq<|Jl3 2 R<|Js3 R U129 R R<|Jb 1 R<|Jx2 R (dcf a0)<|Jc1<|Jt<|Jt<|Jb1<|Oh h<|Jw1 _ ⟨O,(i.1,i.2.1,i.2.2),I,G,R,Fct,b9,aV,ag,au,ah,R⟩<|KM R
 refine Ob h λds h cq=>have af:=dct a0;Jq (Jl3 2 R<|Js3 R U129 R R<|Jb 1 R<|Jw2 R af<|Js<|Jp<|Jq<|Jv<|Jq<|Jl3 2 R<|Ob h λdu a8 h=>Jd3 R L a8 U129 Z4 (have av:=L.stp (T5 F u s t ao);Jc3 R I4 (av.gBool a8) (Jd<|Ob h λax h cm=>Jt3 [1,2,3,4,9,10,11,12] (λc e a=>∃b,e=c/\Stp [4] O db b a/\Oc E6 2 b a 4 x v ax/\n.length=ax.length) ?_ ?_)))
 exact Bk h (λcP h=>Jy R<|Js<|Oh h<|Jw1 _ ⟨O,R,Jo3,au,ah⟩<|KM R) (λcP h=>Jx R<|Jm3 2 R<|Jg4 tv R (Jh4 (haE (aW.stp<|T4 u s t ao).cells) I204 Z204 R)<|Jn 2 R<|Ob h λ_ cZ h=>Jw3 R call204 (p7 (J:=Mk O) (p0:=p0) Gct Gct Gct Gct Gct Gct cZ)<|Ki λ_ bF _=>Tv<|Ob h λ_ c0 h=>Jf R (Jg2 au.rdc c0 U31 Z2 R R ah R) (Ob h λdg bh h=>Jk1 (J:=bF) (E:=E6) 4 [] R R R R R R R R Z2 R R R R Fct bh λ_ bI _ ca=>Tv<|have cB:n.length=dg.length:=ah.trans (Ju2 bh).2.2.2.symm;Jo (Oh h<|Jw1 _ ⟨bI,R,Fct,ca,cB⟩<|KM R)))
 rintro _ dc ⟨bE,rfl,aD,_,cA⟩
 refine Jp<|Jl3 2 R<|Ob cm λdv a9 h=>Jd3 R av a9 U129 Z4<|Jc3 R I4 ((av.stp aD).gBool a9)<|Jn 1 R<|Ob h λc5 h cn=>Jk4 [1,2,3,4,9,10,11,12] 50 c5 bE dc 5 tv ?_ ?_
 exact Bk h (λcQ h=>Jn 3 R<|Je4 R<|Jn 1 R<|Oh h<|Jl4 tv R) (λcQ h=>Jn 2 R<|Ob h λ_ ba h=>Jd3 R aZ ba U129 Z4<|Jc3 R I4 ((aZ.stp<|T6 F u s t ao aD).gBool ba)<|Jn 1 R<|Oh h<|Jl4 tv R)
 rintro _ dd _ ⟨rfl,am,_⟩
 refine Jd<|Ob cn λE h co=>Jt3 [1,2,3,4,9,10,12] (λc e a=>∃b V U,e=(11,.slice V E.1.length U)::c/\Stp [3,5] am dd b a/\Oc E6 2 b a 5 V U E.1/\Oc EQ 4 b a 3 o p E.2/\m.length=E.2.length) ?_ ?_
 exact Bk h (λcR h=>Jy R<|Js<|Oh h<|Jw1 _ ⟨am,I,G,R,Jo3,Fct,Fct,ag⟩<|KM R) (λcR h=>Jx R<|Jl3 2 R<|Ob h λ_ c1 h=>Jf R (Jg2 aV.rdc c1 U129 Z4 R R ag R) (Ob h λdh bi h=>Jk1 (J:=am) (E:=EQ) 3 [] R R R R R R R R Z4 R R R R Fct bi λ_ bL _ _=>Tv<|have cD:m.length=dh.length:=ag.trans (Ju2 bi).2.2.2.symm;Jd (Jm3 2 R<|Ji4 bL 6 [q] R Y31 bG R λdl dk _ bM _ cd=>Tv<|Ob h λ_ c2 h=>Jd4 bM E6 5 [] R Y31 bG R Fct (EV (bO _) cd.rdc) bJ c2 R λbT bP _ bN _ ce=>Tv<|Jc 1 R<|Oh h<|Jw1 _ ⟨bN,bT,bP,R,Fct,ce,Fct,cD⟩<|KM R)))
 rintro _ _ ⟨bK,V,U,rfl,_,cb,cc,cC⟩
 refine have h:=co;Jz (Jp<|Jg3 R ?_)
 have cS:ET .i64 (q+1)=q+1:=wr1 cp (Jn2 af) L.len_le
 rw[cS]
 have af:=Jn2 af
 cases h
 exact Ja2 ⟨bK,q+1,(E.1,E.2,ax),V,U,R,Fct,cb,cc,cC,Fct,cA,by omega,by omega,cq⟩ R
 rintro _ bs ⟨al,k,ab,X,rfl,T,b6,b7,cy,b8,cz,rfl⟩
 refine have h:=yI cj;Jp (Jq<|Jf3 R<|Ob h λbn cE cf=>Jt3 [9] (λc e a=>∃b,∃y:VI×Int×VB×VI,∃aH aN,e=c/\Stp [3,4,5] al bs b a/\Oc E6 2 b a 5 aH aN y.1/\Oc EQ 4 b a 3 o p y.2.2.1/\m.length=y.2.2.1.length/\Oc E6 2 b a 4 x v y.2.2.2/\n.length=y.2.2.2.length/\bn=EW y) (Jv<|Ju3 [1,2,4,9,10] (λg c e a=>∃b,∃f:VI×Int×VB×VI,∃K H,e=(11,.slice K f.1.length H)::(13,vi f.2.1)::c/\Stp [3,4,5] al bs b a/\Oc E6 2 b a 5 K H f.1/\Oc EQ 4 b a 3 o p f.2.2.1/\m.length=f.2.2.1.length/\Oc E6 2 b a 4 x v f.2.2.2/\n.length=f.2.2.2.length/\bQ (jb p0 p1 p2) g f=some bn) ⟨_,_,⟨al,(k.1,(0:Int),k.2.1,k.2.2),ab,X,R,Jo3,b6,b7,cy,b8,cz,cE⟩,(KM R)⟩ ?_) ?_)
 rintro g _ bq ⟨N,f,K,H,rfl,P,ac,aR,a2,aS,a3,h⟩
 rcases g with _|g
 cases h
 refine Ob h λ_ h a1=>Jq<|Jl3 2 R<|Js3 R U31 R R<|Jb 1 R ?_
 refine Bk h (λcH h=>Jy R<|Jc1<|Jt<|Jt ?_) (λcH h=>Jx R<|Js<|Jp<|Jq<|Jv<|Jl3 2 R<|Ob h λde bb h=>Jd3 R ac.rdc bb U31 Z2<|Jc3 R I2 (ac.rdc.gInt bb)<|Jb 1 R<|Jf3 R<|Ob h λbl cF cg=>Jt3 [1,2,4,9,10,13] (λc e a=>∃b,∃j:VI×Int×VB×VI,∃W Y,e=(11,.slice W j.1.length Y)::c/\Stp [3,4,5] N bq b a/\Oc E6 2 b a 5 W Y j.1/\Oc EQ 4 b a 3 o p j.2.2.1/\m.length=j.2.2.1.length/\Oc E6 2 b a 4 x v j.2.2.2/\n.length=j.2.2.2.length/\bl=EW j) (Jv<|Ju3 [1,2,4,9,10,13,14] (λg c e a=>∃b,∃d:VI×Int×VB×VI,∃B A,e=(11,.slice B d.1.length A)::(15,vi d.2.1)::c/\Stp [3,4,5] N bq b a/\Oc E6 2 b a 5 B A d.1/\Oc EQ 4 b a 3 o p d.2.2.1/\m.length=d.2.2.1.length/\Oc E6 2 b a 4 x v d.2.2.2/\n.length=d.2.2.2.length/\bQ (eR p0 p1 p2 de) g d=some bl) ⟨_,_,⟨N,(f.1,(0:Int),f.2.2.1,f.2.2.2),K,H,R,Jo3,ac,aR,a2,aS,a3,cF⟩,(KM R)⟩ ?_) ?_)
 cases h
 exact have h:=a1;Jb1 (Oh h<|Jw1 _ ⟨N,(f.1,f.2.1,f.2.2.1,f.2.2.2),K,H,R,Fct,ac,aR,a2,aS,a3,R⟩<|KM R)
 rintro g _ c7 ⟨az,d,B,A,rfl,Q,b0,ad,C,ap,M,h⟩
 rcases g with _|g
 cases h
 refine Ob h λ_ h aw=>Jq<|Jl3 1 R<|Je3 R U204 R Z32 (have ae:=aW.stp (T6 u s t T P Q);Jc3 R I32 (ae.ld 3 R R) (Jn 1 R<|Ob h λdw bc h=>Jd3 R aY bc U32 Z31 ?_))
 have aq:=aY.stp (T7 F u s t T P Q)
 obtain⟨_,_,_,cr⟩:=aq.gSl bc
 refine Jc3 R I31 cr<|Js3 R U31 R R<|Jb 1 R ?_
 refine Bk h (λcJ h=>Jy R<|Jc1<|Jt<|Jt ?_) (λcJ h=>Jx R<|Js<|Jp<|Jq<|Jv<|Jj3<|Je3 R U204 R Z32<|Jc3 R I32 (ae.ld 3 R R)<|Jn 1 R<|Ob h λ_ bd h=>Jd3 R aq bd U32 Z31 ?_)
 cases h
 exact have h:=aw;Jb1 (Oh h<|Jw1 _ ⟨az,(d.1,d.2.1,d.2.2.1,d.2.2.2),B,A,R,Fct,b0,ad,C,ap,M,R⟩<|KM R)
 obtain⟨_,_,aT,cs⟩:=aq.gSl bd
 refine Jc3 R I31 cs<|Jn 1 R<|Ob h λdf be h=>Jd3 R aT be U31 Z2<|Jc3 R I2 (aT.gInt be)<|Jb 1 R<|Jq<|Jl3 2 R<|Ob h λdx bf h=>Jd3 R L bf U129 Z4<|Jc3 R I4 ((L.stp<|T7 F u s t T P Q).gBool bf)<|Jn 2 R<|Ob h λc6 h ch=>Jk4 [1,2,4,9,10,11,13,14,15,16] 96 c6 az c7 5 tv ?_ ?_
 exact Bk h (λcK h=>Jn 2 R<|Ob h λ_ bg h=>Jf R (Jg2 ad.rdc bg U129 Z4 R R C R)<|Jc3 R I4 (ad.rdc.gBool bg)<|Jn 1 R<|Oh h<|Jl4 tv R) (λcK h=>Jn 3 R<|Je4 R<|Jn 1 R<|Oh h<|Jl4 tv R)
 rintro _ c8 _ ⟨rfl,aA,S⟩
 refine Jn 1 R<|Ob ch λc3 h ci=>Jk4 [1,2,4,9,10,11,13,14,15,16] 103 c3 aA c8 6 tv ?_ ?_
 exact Bk h (λcL h=>Jg4 tv R (Jh4 (haE (ae.stp S).cells) I204 Z204 R)<|Jn 2 R<|Ob h λ_ cT h=>Jw3 R call221 (se (J:=Mk aA) (p0:=p0) Gct Gct Gct Gct Gct cT)<|Kb λ_ _ _=>Tv<|Jn 2 R<|Oh h<|Jv1 _ tv ⟨R,_,Fct⟩<|KM R) (λcL h=>Je4 R<|Jn 2 R<|Je4 R<|Jn 2 R<|Oh h<|Jl4 tv R)
 rintro _ _ _ ⟨rfl,aB,an⟩
 refine have h:=ci;Jd ?_
 refine Bk h (λcM h=>Jy R<|Js<|Jp<|Jl3 2 R<|Ob h λ_ a5 h=>Jf R (Jg2 ap.rdc a5 U31 Z2 R R M R) (have ar:=ap.stp (S.tr an);Jc3 R I2 (ar.rdc.gInt a5) (Jn 1 R<|Ob h λ_ cU h=>Jf R (Jg2 ar.rdc cU U31 Z2 R R M R) (Ob h λbt bj h=>Jk1 (J:=aB) (E:=E6) 4 [] R R R R R R R R Z2 R R R R ar bj λc9 bx aC aU=>Tv<|have a4:n.length=bt.length:=M.trans (Ju2 bj).2.2.2.symm;Jd (Jj3<|Je3 R U204 R Z31<|Jc3 R I31 ((ae.stp<|T3 S an aC).ld 0 R R)<|Jn 1 R<|Ob h λdt a6 h=>Jd3 R aX a6 U31 Z2<|Jc3 R I2 ((aX.stp<|T10 F u s t T P Q S an aC).gInt a6)<|Jn 3 R<|Ob h λc4 h ck=>Jk4 [1,2,4,9,10,11,13,14,15,16] 123 c4 bx c9 6 tv ?_ ?_))))) (λcM h=>Jx R<|Jc1<|Jt<|Jb1<|Jp<|Jg3 R ?_)
 exact Bk h (λcN h=>Jn 2 R<|Ob h λ_ a7 h=>Jf R (Jg2 aU.rdc a7 U31 Z2 R R a4 R)<|Jc3 R I2 (aU.rdc.gInt a7)<|Jn 2 R<|Oh h<|Jl4 tv R) (λcN h=>Jn 3 R<|Je4 R<|Jn 2 R<|Oh h<|Jl4 tv R)
 rintro _ da _ ⟨rfl,ak,_⟩
 refine Jd<|Ob ck λD h cl=>Jt3 [1,2,4,9,10,13,14,15] (λc e a=>∃b Z aa,e=(11,.slice Z D.1.length aa)::c/\Stp [3,5] ak da b a/\Oc E6 2 b a 5 Z aa D.1/\Oc EQ 4 b a 3 o p D.2/\m.length=D.2.length) ?_ ?_
 exact Bk h (λcO h=>Jy R<|Js<|Oh h<|Jw1 _ ⟨ak,B,A,R,Jo3,Fct,Fct,C⟩<|KM R) (λcO h=>Jx R<|Jl3 2 R<|Ob h λ_ cV h=>Jf R (Jg2 ad.rdc cV U129 Z4 R R C R) (Ob h λdi bk h=>Jk1 (J:=ak) (E:=EQ) 3 [] R R R R R R R R Z4 R R R R Fct bk λ_ bA _ _=>Tv<|have cx:m.length=di.length:=C.trans (Ju2 bk).2.2.2.symm;Jd (Jm3 2 R<|Ji4 bA 6 [df] R Y31 bG R λdj dm _ bC _ b4=>Tv<|Ob h λ_ cW h=>Jd4 bC E6 5 [] R Y31 bG R Fct (EV (bO _) b4.rdc) bJ cW R λbS bR _ bD _ b5=>Tv<|Jc 1 R<|Oh h<|Jw1 _ ⟨bD,bS,bR,R,Fct,b5,Fct,cx⟩<|KM R)))
 rintro _ _ ⟨bz,Z,aa,rfl,_,b2,b3,cw⟩
 refine have h:=cl;Jz (Jp<|Jg3 R ?_)
 cases h
 exact Ja2 ⟨bz,(D.1,((ET .i64<|d.2.1+1):Int),D.2,bt),Z,aa,R,Fct,b2,b3,cw,Fct,a4,aw⟩ R
 cases h
 exact Ja2 ⟨aB,(d.1,((ET .i64<|d.2.1+1):Int),d.2.2.1,d.2.2.2),B,A,R,Fct,Fct,Fct,C,Fct,M,aw⟩ R
 rintro _ _ ⟨bw,j,W,Y,rfl,_,bX,bY,cu,bZ,cv,rfl⟩
 refine have h:=yI cg;Jz (Jp<|Jg3 R ?_)
 cases h
 exact Ja2 ⟨bw,(j.1,((ET .i64<|f.2.1+1):Int),j.2.2.1,j.2.2.2),W,Y,R,Fct,bX,bY,cu,bZ,cv,a1⟩ R
 rintro _ _ ⟨bv,y,aH,aN,rfl,_,_,_,ct,_,_,rfl⟩
 exact have h:=yI cf;Jp (Jf3 R<|Ju<|Jb2 (l:=[.tmp 8]) results224 (Jq2 R R) R<|Oh h<|⟨(λbW=>ren [(3,2)]<|bv bW),o,p,(by simp only[ct]),Fct,Fct⟩)
theorem ww {g e f i}{p0:Word}{p1:Int}(L:Rd Ri J w 0 g e p0.Stem) (M:Rd Ri J w 0 f i p0.Loop){r:Bool}(h:pK p0 p1=some r):Ret prog 135 [.agg #[.slice g p0.Stem.length e,.slice f p0.Loop.length i],vi p1] w (Pvb J w r):=by
 refine Jp3 J func135 R ntmps135 R λN=>Jj3<|Jx3 J 2 R λ_ G k _ a=>Tv<|Jb 1 R<|Jq<|Jj3<|Je3 R U44 R Z31<|Jc3 R I31 (a.ld 0 R R)<|Js3 R U31 R R<|Jn 2 R<|Ob h λC h u=>Jk4 [1,2] 14 C k G 5 tv ?_ ?_
 exact Bk h (λz h=>Je3 R U44 R Z31<|Jc3 R I31 (a.ld 1 R R)<|Js3 R U31 R R<|Jn 2 R<|Oh h<|Jl4 tv R) (λz h=>Jn 1 R<|Je4 R<|Jn 3 R<|Oh h<|Jl4 tv R)
 rintro _ I _ ⟨rfl,n,d⟩
 refine Jn 1 R<|Ob u λD h s=>Jk4 [1,2] 20 D n I 5 tv ?_ ?_
 exact Bk h (λv h=>Je3 R U44 R Z31<|Jc3 R I31 ((a.stp d).ld 1 R R)<|Js3 R U31 R R<|Jn 2 R<|Oh h<|Jl4 tv R) (λv h=>Jn 1 R<|Je4 R<|Jn 3 R<|Oh h<|Jl4 tv R)
 rintro _ _ _ ⟨rfl,b,p⟩
 refine have h:=s;Jd ?_
 refine Bk h (λx h=>Jy R<|Js<|Jp<|Jj3<|Je3 R U44 R Z31 (have j:=a.stp (d.tr p);Jc3 R I31 (j.ld 0 R R) (Jn 1 R<|Ob h λO A h=>Jw3 R call93 (gX (J:=Mk b) Gct A)<|Kb λH c q=>Tv<|Jn 1 R<|Ob h λE h t=>Ju1 [(5,2),(6,1),(7,2),(8,1),(9,2)] [(10,2)] (λo F=>o=[(30,.bool E)]/\∃K,Stp [] c H K F) tv ?_ ?_))) (λx h=>Jx R<|Jf3 R<|Ju<|Jw<|Jb2 (l:=[.tmp 4]) results135 (Jq2 R R) R<|Oh h<|⟨b,R,Fct⟩)
 exact Bk h (λy h=>Jn 1 R<|Je4 R<|Jn 1 R<|Je4 R<|Jn 1 R<|Oh h<|Jl4 tv R) (λy h=>Je3 R U44 R Z31<|Jc3 R I31 ((j.stp q).ld 1 R R)<|Jn 1 R<|Ob h λ_ B h=>Jw3 R call93 (gX (J:=Mk c) Gct B)<|Kb λ_ _ _=>Tv<|Jn 1 R<|Oh h<|Jv1 _ tv ⟨R,_,Fct⟩<|KM R)
 rintro _ _ _ ⟨rfl,m,_⟩
 exact have h:=t;Jb 1 R (Ju<|Jb2 (l:=[.tmp 4]) results135 (Jq2 R R) R<|Oh h<|⟨m,R,Fct⟩)
theorem vE {a7 bR}{p0:VV}{a8 bS}{p1:VB}(I:Rd Rs J w 0 a7 bR p0) (Y:Rd Rp.bool J w 0 a8 bS p1){r:VV}(h:po p0 p1=some r):Ret prog 85 [.slice a7 p0.length bR,.slice a8 p1.length bS] w (λd9 a=>∃b bN bP,d9= .slice bN r.length bP/\Ent J w b a/\Oc (EZ Rs) 31 b a 2 bN bP r):=by
 refine Jp3 J func85 R ntmps85 R λep=>Jj3<|Jx3 J 2 R λcz _ b6 S aP=>Tv<|Jb 1 R<|Jl3 1 R<|Js3 R U32 R R<|Ob h λC dX h=>Jl1 (J:=b6) (E:=(ER E6 2)) (z:=([]:VI)) 3 R R R R R R R Y32 bL R R R R R (λ_ _ _=>⟨none,0,R,Ow.nil⟩) (Jv2 dX) λV U bY aC n da=>Tv<|Jb 1 R<|Jq<|Jl3 1 R<|Js3 R U32 R R<|Jb 1 R<|Ob h λbH dE de=>Jt3 [0,3,5] (λc e a=>∃b,∃ac:VV,e=c/\Stp [3,5] aC bY b a/\Oc (ER E6 2) 31 b a 3 V U ac/\C.length=ac.length/\bH=EW ac) (Jv<|Ju3 [0,3,5,21,22] (λd c e a=>∃b q,∃L:VV,e=(23,vi q)::c/\Stp [3,5] aC bY b a/\Oc (ER E6 2) 31 b a 3 V U L/\C.length=L.length/\0<=q/\ES ((p0.length:Int)-q)=d/\cntM (gx p0 p1) d q L=some bH) ⟨_,_,⟨aC,0,C,R,Jo3,da,R,(by decide),(by simp),dE⟩,(KM R)⟩ ?_) ?_
 rintro d _ bV ⟨ah,q,L,rfl,aD,bh,bt,br,av,h⟩
 rcases d with _|d
 exact Jf3 R<|Jq<|Jx2 R (dcf av)<|Jc1<|Jt<|Jt<|Jb1<|Oh h<|Jw1 _ ⟨ah,L,R,Fct,bh,bt,R⟩<|KM R
 refine Ob h λes h dr=>Jf3 R<|Jq<|Jw2 R (dct av)<|Js<|Jp<|Jq<|Jv<|Jl3 1 R<|Ob h λb0 bw h=>Jd3 R I bw U32 Z31 ?_
 obtain⟨_,_,aN,dt⟩:=(I.stp (T3 S n aD)).gSl bw
 refine Jc3 R I31 dt<|Jb 2 R<|Jl3 1 R<|Js3 R U31 R R<|Jb 1 R<|Ob h λbK dI dm=>Jt3 [0,3,5,21,22,23] (λc e a=>∃b,∃ae:VV,e=c/\Stp [3,5] ah bV b a/\Oc (ER E6 2) 31 b a 3 V U ae/\C.length=ae.length/\bK=EW ae) (Jv<|Ju3 [0,3,5,6,21,22,23,28,29] (λd c e a=>∃b N,∃ad:VV,e=(30,vi N)::c/\Stp [3,5] ah bV b a/\Oc (ER E6 2) 31 b a 3 V U ad/\C.length=ad.length/\0<=N/\ES ((b0.length:Int)-N)=d/\cntM (ki p1 q b0) d N ad=some bK) ⟨_,_,⟨ah,0,L,R,Jo3,bh,bt,(by decide),(by simp),dI⟩,(KM R)⟩ ?_) ?_
 rintro d _ ed ⟨a1,N,ad,rfl,aG,aO,ab,bq,au,h⟩
 rcases d with _|d
 exact Jf3 R<|Jq<|Jx2 R (dcf au)<|Jc1<|Jt<|Jt<|Jb1<|Oh h<|Jw1 _ ⟨a1,ad,R,Fct,aO,ab,R⟩<|KM R
 refine Ob h λer h ds=>Jf3 R<|Jq<|Jw2 R (dct au)<|Js<|Jp<|Jq<|Jv<|Jj3<|Ob h λ_ bx h=>Jd3 R aN bx U31 Z2<|Jc3 R I2 ((aN.stp aG).gInt bx)<|Jb 1 R<|Jj3 (have bm:=aP.stp (T3 n aD aG);Jc3 R I129 (bm.ld 0 R R) (Jn 1 R<|Ob h λeu bz h=>Jd3 R Y bz U129 Z4 (have aQ:=Y.stp (T4 S n aD aG);Jc3 R I4 (aQ.gBool bz) (Jn 1 R<|Ob h λd7 h dn=>Jk4 [0,3,5,6,9,21,22,23,28,29,30] 43 d7 a1 ed 5 tv ?_ ?_))))
 exact Bk h (λdP h=>Je4 R<|Jn 2 R<|Je4 R<|Jn 1 R<|Oh h<|Jl4 tv R) (λdP h=>Jc3 R I129 (bm.ld 0 R R)<|Jn 1 R<|Ob h λ_ bA h=>Jd3 R aQ bA U129 Z4<|Jc3 R I4 (aQ.gBool bA)<|Jn 1 R<|Oh h<|Jl4 tv R)
 rintro _ ee _ ⟨rfl,aB,cn⟩
 refine Jd<|Ob dn λaW h dp=>Jt3 [0,3,5,6,21,22,23,28,29,30] (λc e a=>∃b,e=c/\Stp [3,5] aB ee b a/\Oc (ER E6 2) 31 b a 3 V U aW/\C.length=aW.length) ?_ ?_
 refine Bk h (λdQ h=>Jy R<|Js<|Oh h<|Jw1 _ ⟨aB,R,Jo3,Fct,ab⟩<|KM R) (λdQ h=>Jx R<|Jm3 4 R<|Ob h λ_ aS h=>Jf R (Jg2 aO.rdc aS U32 Z31 R R ab R) ?_)
 have bn:=aO.stp cn
 obtain⟨_,_,_,bs⟩:=bn.rdc.gSl aS
 refine Jc3 R I31 bs<|Jn 1 R<|Ji4 aB 4 [q] R Y31 bG R λek em _ _ a6 c5=>Tv<|?_
 have bo:=bn.stp a6
 obtain⟨cg,co,c6,_⟩:=bo.borrow aS (bs _ (Stp.ag a6 R)) 5 R R
 exact Ob h λ_ dY h=>Jd4 cg E6 5 [] R Y31 bG R c6 (EV (bO _) (c5.stp co).rdc) bJ dY R λen eo _ ch _ c8=>Tv<|Ob h λ_ dZ h=>Jf R (Jg2 bo.rdc dZ U32 Z31 R R ab R) (Ob h λeg bE h=>WO.stH (J:=ch) (E:=(ER E6 2)) 3 [5] R R R R R R R R Z31 R ⟨_,_,R,c8⟩ R R Fct bE λ_ ci _ c9=>Tv<|have dD:C.length=eg.length:=ab.trans (Ju2 bE).2.2.2.symm;Jo (Oh h<|Jw1 _ ⟨ci,R,Fct,c9,dD⟩<|KM R))
 rintro _ _ ⟨cf,rfl,_,c4,dC⟩
 refine have h:=dp;Jz (Jp<|Jg3 R<|wr2 bq au aN.len_le ▸ ?_)
 cases h
 exact Ja2 ⟨cf,N+1,aW,R,Fct,c4,dC,nxz bq,nxm au,ds⟩ R
 rintro _ _ ⟨ce,ae,rfl,_,c3,dB,rfl⟩
 refine have h:=yI dm;Jz (Jp<|Jg3 R<|wr2 br av I.len_le ▸ ?_)
 cases h
 exact Ja2 ⟨ce,q+1,ae,R,Fct,c3,dB,nxz br,nxm av,dr⟩ R
 rintro _ _ ⟨b2,ac,rfl,Q,cM,dx,rfl⟩
 refine have h:=yI de;Jp (Jl3 1 R<|Js3 R U32 R R<|Ob h λaf d0 h=>Jl1 (J:=b2) (E:=EQ) (z:=(false:Bool)) 4 R R R R R R R Y129 cI R R R R R (λ_ _ _=>R) (Jv2 d0) λaj an _ cj D _=>Tv<|Jy3 cj 5 R zeroValue129 R λcx _ a2 E db=>Tv<|Ja4 a2 5 (vc:=[.slice aj af.length an]) R sizeOf129 R db R λ_ F dc=>Tv<|Jd<|Jj3<|Jc4 a2 E6 6 R Y31 bG R λa9 bb _ ck y _=>Tv<|Jy3 ck 7 R zeroValue31 R λaL _ a3 A dd=>Tv<|Ja4 a3 7 (vc:=[.slice a9 ([]:VI).length bb]) R Z31 R dd R λ_ B _=>Tv<|Jd<|Jj3<|Jy3 a3 8 R zeroValue171 R λcy _ ag s cE=>Tv<|Jd<|Jj3<|Jf R (dH (first:=[]) (captured:=[.tmp 10,.tmp 3,.tmp 12]) R R R ⟨_,R⟩)<|Ja4 ag 8 (vc:=[.func (.func 140) #[] #[.pointer (some ⟨cx,0,none⟩),.pointer (some ⟨cz,0,none⟩),.pointer (some ⟨cy,0,none⟩)]]) R sizeOf171 R cE R λbU t bd=>Tv<|Jd<|Jq<|Jl3 1 R<|Js3 R U32 R R<|Jb 1 R<|Ob h λbM dF df=>Jt3 [0,5,10,11,12] (λc e a=>∃b,∃o:VI×VB,∃aI aH,e=c/\Stp [4,6,7,11,12,13] ag bU b a/\Oc E6 2 b a 6 aI aH o.1/\Oc EQ 4 b a 4 aj an o.2/\af.length=o.2.length/\Bc b a 7 aL 31 [.slice aI o.1.length aH]/\bM=EW o) (Jv<|Ju3 [0,3,5,10,11,12,62] (λd c e a=>∃b O,∃p:VI×VB,∃W T,e=(63,vi O)::c/\Stp [4,6,7,11,12,13] ag bU b a/\Oc E6 2 b a 6 W T p.1/\Oc EQ 4 b a 4 aj an p.2/\af.length=p.2.length/\Bc b a 7 aL 31 [.slice W p.1.length T]/\0<=O/\ES ((p0.length:Int)-O)=d/\cntM (iJ p0 p1) d O p=some bM) ⟨_,_,⟨ag,0,(([]:VI),af),a9,bb,R,Jo3,Fct,Fct,R,Fct,(by decide),(by simp),dF⟩,(KM R)⟩ ?_) ?_)
 rintro d _ ea ⟨aX,O,p,W,T,rfl,ai,cG,aM,Z,cH,bp,ar,h⟩
 rcases d with _|d
 exact Jf3 R<|Jq<|Jx2 R (dcf ar)<|Jc1<|Jt<|Jt<|Jb1<|Oh h<|Jw1 _ ⟨aX,(p.1,p.2),W,T,R,Fct,cG,aM,Z,cH,R⟩<|KM R
 refine Ob h λeq h dq=>Jf3 R<|Jq<|Jw2 R (dct ar)<|Js<|Jp<|Jq<|Jv<|Jf3 R<|Jj3<|Jc3 R I129 ((aP.stp<|T11 n Q D E F y A B s t ai).ld 0 R R)<|Jn 1 R<|Ob h λev bB h=>Jd3 R Y bB U129 Z4<|Jc3 R I4 ((Y.stp<|T12 S n Q D E F y A B s t ai).gBool bB)<|Jn 1 R<|Ob h λd8 h dh=>Jk4 [0,3,5,10,11,12,13,62,63] 76 d8 aX ea 6 tv ?_ ?_
 exact Bk h (λdJ h=>Je4 R<|Jn 2 R<|Je4 R<|Jn 2 R<|Oh h<|Jl4 tv R) (λdJ h=>Jc3 R I129 ((dc.stp<|T6 y A B s t ai).ld 0 R R)<|Jn 1 R<|Ob h λ_ bC h=>Jf R (Jg2 aM.rdc bC U129 Z4 R R Z R)<|Jc3 R I4 (aM.rdc.gBool bC)<|Jn 2 R<|Oh h<|Jl4 tv R)
 rintro _ eb _ ⟨rfl,ax,cl⟩
 refine Jd<|Ob dh λK h di=>Jt3 [0,3,5,10,11,12,62,63] (λc e a=>∃b am ao,e=c/\Stp [4,6,7,11,12,13] ax eb b a/\Oc E6 2 b a 6 am ao K.1/\Oc EQ 4 b a 4 aj an K.2/\af.length=K.2.length/\Bc b a 7 aL 31 [.slice am K.1.length ao]) ?_ ?_
 refine Bk h (λdK h=>Jy R<|Js<|Oh h<|Jw1 _ ⟨ax,W,T,R,Jo3,Fct,Fct,Z,Fct⟩<|KM R) (λdK h=>Jx R<|Jk3<|Jc3 R isAgg171 ((bd.stp<|ai.tr cl).ld 0 R R)<|Jn 2 R<|Jf R (dH (first:=[]) (captured:=[.tmp 11]) R R R ⟨_,R⟩)<|Ob h λ_ d1 h=>WO.callV R R R R R R R R call140 (fC _ (J:=λg=>mp [(6,2),(4,3),(7,4)] 0<|ax g) (Jm2 Fct (mp [(6,2),(4,3),(7,4)] 0) R R) Fct Fct (Jm2 Fct (mp [(6,2),(4,3),(7,4)] 0) R R) Fct (Bc.cast Fct (by simp only[Z])) Fct Fct d1) ?_)
 rintro _ _ ⟨_,cr,cp,rfl,cA,cN,cO,dw,cP⟩
 exact Im cA 9 R (λb4 _ aT=>Tv<|Jo<|Oh h<|Jw1 _ ⟨(λg=>ren [(11,6),(12,4),(13,7)]<|b4 g),cr,cp,R,Fct,((cN.mx (bI _) aT R (R:9+2=11)).map (ren [(11,6),(12,4),(13,7)]) R R),((cO.mx cQ aT R (R:9+3=12)).map (ren [(11,6),(12,4),(13,7)]) R R),(Z.trans dw),((cP.mx aT R (R:9+4=13)).map (ren [(11,6),(12,4),(13,7)]) R R)⟩<|KM R)
 rintro _ _ ⟨b3,am,ao,rfl,_,cJ,cK,dv,cL⟩
 refine have h:=di;Jz (Jp<|Jg3 R<|wr2 bp ar I.len_le ▸ ?_)
 cases h
 exact Ja2 ⟨b3,O+1,(K.1,K.2),am,ao,R,Fct,cJ,cK,dv,cL,nxz bp,nxm ar,dq⟩ R
 rintro _ _ ⟨b1,o,aI,aH,rfl,P,be,_,_,cF,rfl⟩
 refine have h:=yI df;Jp (Jl3 1 R<|Js3 R U32 R R<|Ob h λaw d2 h=>Jl1 (J:=b1) (E:=EQ) (z:=(false:Bool)) 9 R R R R R R R Y129 cI R R R R R (λ_ _ _=>R) (Jv2 d2) λaJ aK _ aY u _=>Tv<|Ja4 aY 5 (vc:=[.slice aJ aw.length aK]) R sizeOf129 R Fct R λ_ v cR=>Tv<|Jd<|Jj3<|Jc4 aY (EZ<|Rs) 10 R Y32 bL R λcv cu bW ay j cS=>Tv<|Jb 1 R<|Jq<|Jj3 (have bf:=cF.stp (T3 u v j);Jc3 R I31 (bf.ld 0 R R) (Js3 R U31 R R<|Jb 2 R<|Ob h λbF dG dj=>Jx1 (λe a=>∃b,∃M:VV×Int×VB,∃aq ak,e=[(14,.slice aq M.1.length ak)]/\Stp [9,10,11,12,15,16,20,21] ay bW b a/\Oc (EZ<|Rs) 31 b a 10 aq ak M.1/\Oc EQ 4 b a 9 aJ aK M.2.2/\aw.length=M.2.2.length/\bF=EW M) (Jv<|Ju3 [0,5,10,11,12] (λd c e a=>∃b,∃f:VV×Int×VB,∃G H,e=(14,.slice G f.1.length H)::(15,vi f.2.1)::c/\Stp [9,10,11,12,15,16,20,21] ay bW b a/\Oc (EZ<|Rs) 31 b a 10 G H f.1/\Oc EQ 4 b a 9 aJ aK f.2.2/\aw.length=f.2.2.length/\bQ (dS p0 p1 ac o) d f=some bF) ⟨_,_,⟨ay,(([]:VV),((ET .i64 ((o.1.length:Int)-1)):Int),aw),cv,cu,R,Jo3,cS,Fct,R,dG⟩,(KM R)⟩ ?_) ?_)))
 rintro d _ _ ⟨az,f,G,H,rfl,i,bg,X,aa,h⟩
 rcases d with _|d
 cases h
 refine Ob h λ_ h aR=>Jq<|Jf3 R ?_
 refine Bk h (λdL h=>Jy R<|Jc1<|Jt<|Jt ?_) (λdL h=>Jx R<|Js<|Jp<|Jq<|Jv<|Jj3<|Jc3 R I31 ((bf.stp i).ld 0 R R)<|Jn 1 R<|Ob h λ_ bD h=>Jd3 R be.rdc bD U31 Z2<|Jc3 R I2 ((be.stp<|T4 u v j i).rdc.gInt bD)<|Jb 1 R<|Jq<|Jj3 (have bi:=cR.stp (j.tr i);Jc3 R I129 (bi.ld 0 R R) (Jn 1 R<|Ob h λet bu h=>Jf R (Jg2 X.rdc bu U129 Z4 R R aa R)<|Jc3 R I4 (X.rdc.gBool bu)<|Jd ?_)))
 cases h
 exact have h:=aR;Jb1 (Oh h<|Jw1 _ ⟨az,(f.1,f.2.1,f.2.2),G,H,R,Fct,bg,X,aa,R⟩<|KM R)
 refine Bk h (λdM h=>Jy R<|Js<|Jp<|Jj3<|Jc4 az E6 11 R Y31 bG R λct cq _ b7 x cT=>Tv<|Jy3 b7 12 R zeroValue31 R λ_ _ aZ k cU=>Tv<|Ja4 aZ 12 (vc:=[.slice ct ([]:VI).length cq]) R Z31 R cU R λ_ m cV=>Tv<|Jd<|Jj3 (have bj:=bd.stp (T8 P u v j i x k m);have a4:=(T3 x k m);Jc3 R isAgg171 (bj.ld 0 R R) (Jn 2 R<|Jf R (dH (first:=[]) (captured:=[.tmp 17]) R R R ⟨_,R⟩)<|Ob h λbZ dR h=>WO.callV R R R R R R R R call140 (Ret.cast (by simp only[dx,List.cons_append,List.nil_append])<|fE _ (J:=λg=>mp [(11,2),(9,3),(12,4)] 0<|aZ g) (Jm2 (cM.stp<|T16 D E F y A B s t P u v j i x k m).rdc (mp [(11,2),(9,3),(12,4)] 0) R R) ((cT.stp<|k.tr m).map (mp [(11,2),(9,3),(12,4)] 0) R R) ((X.stp a4).map (mp [(11,2),(9,3),(12,4)] 0) R R) (Jm2 (Y.stp<|S.tr<|n.tr<|Q.tr<|D.tr<|E.tr<|F.tr<|y.tr<|A.tr<|B.tr<|s.tr<|t.tr<|P.tr<|u.tr<|v.tr<|j.tr<|i.tr<|x.tr<|k.tr m) (mp [(11,2),(9,3),(12,4)] 0) R R) (cV.map (mp [(11,2),(9,3),(12,4)] 0) R R) (Bc.cast ((bi.stp a4).map (mp [(11,2),(9,3),(12,4)] 0) R R) (by simp only[aa])) ((aP.stp<|n.tr<|Q.tr<|D.tr<|E.tr<|F.tr<|y.tr<|A.tr<|B.tr<|s.tr<|t.tr<|P.tr<|u.tr<|v.tr<|j.tr<|i.tr<|x.tr<|k.tr m).map (mp [(11,2),(9,3),(12,4)] 0) R R) (bj.map (mp [(11,2),(9,3),(12,4)] 0) R R) dR) ?_))) (λdM h=>Jx R<|Jc1<|Jt<|Jb1<|Jp<|Jg3 R ?_)
 rintro _ _ ⟨_,bc,ba,rfl,cB,cW,cX,dy,cY⟩
 refine Im cB 13 R (λb8 a5 aU=>Tv<|have bk:=cY.mx aU R (R:13+4=17);Jd (Jj3<|Jc3 R I31 (bk.ld 0 R R)<|Ob h λef dT h=>Jw3 R call57 (fi (J:=λg=>mp [(15,2)] 0<|b8 g) ((cW.mx (bI _) aU R (R:13+2=15)).map (mp [(15,2)] 0) R R) dT) ?_))
 rintro _ ec ⟨_,rfl,cC,cZ,dz⟩
 refine Im cC 18 R (λa0 aE d3=>Tv<|Jd<|Jj3 (have bl:=bk.stp aE;Jc3 R I31 (bl.ld 0 R R) (Js3 R U31 R R<|Jn 2 R<|Ob h λd6 h dk=>Jk4 [0,5,10,11,12,14,15,17] 120 d6 a0 ec 7 tv ?_ ?_)))
 refine Bk h (λdN h=>Jn 2 R<|Ob h λ_ bv h=>Jd3 R I bv U32 Z31 ?_) (λdN h=>Jn 3 R<|Je4 R<|Jn 1 R<|Je4 R<|Jn 1 R<|Oh h<|Jl4 tv R)
 obtain⟨_,_,_,du⟩:=(I.stp (S.tr (n.tr (Q.tr (D.tr (E.tr (F.tr (y.tr (A.tr (B.tr (s.tr (t.tr (P.tr (u.tr (v.tr (j.tr (i.tr (x.tr (k.tr (m.tr (a5.tr aE))))))))))))))))))))).gSl bv
 exact Jc3 R I31 du<|Jn 1 R<|Ob h λ_ dU h=>Jw3 R C38 (bT (J:=Mk a0) Gct dU)<|Kb λ_ _ _=>Tv<|Jn 1 R<|Oh h<|Jv1 _ tv ⟨R,_,Fct⟩<|KM R
 rintro _ bX _ ⟨rfl,aA,aF⟩
 refine Jd<|Ob dk λaV h dl=>Jt3 [0,5,10,11,12,15] (λc e a=>∃b ap al,e=(14,.slice ap aV.length al)::c/\Stp [10,20,21] aA bX b a/\Oc (EZ<|Rs) 31 b a 10 ap al aV) ?_ ?_
 refine Bk h (λdO h=>Jy R<|Js<|Oh h<|Jw1 _ ⟨aA,G,H,R,Jo3,Fct⟩<|KM R) (λdO h=>Jx R<|Jm3 1 R<|Jc3 R I31 ((bl.stp aF).ld 0 R R) ?_)
 obtain⟨ca,_,eh⟩:=dg aA bX 20
 exact Jb4 ca (EZ<|Rs) 21 [] (parts:=[(0,.tmp 122)]) (cells:=[.slice bc bZ.1.length ba]) (xs:=([ef]:VV)) R Y32 bL R (Jj4 ⟨_,_,(congrArg (λd5=>[Value.slice bc d5 ba])<|dz),(Sl.z1<|Sl.st eh ((cZ.mx (bI _) d3 R (R:18+2=20)).stp aF).rdc)⟩) λel ej _ cb _ c0=>Tv<|Ob h λ_ dV h=>Jd4 cb (EZ<|Rs) 10 [21] R Y32 bL R Fct c0.src (c7 R) dV R λcs cw _ cc _ c1=>Tv<|Jc 1 R<|Oh h<|Jw1 _ ⟨cc,cs,cw,R,Fct,c1⟩<|KM R
 rintro _ _ ⟨b9,ap,al,rfl,cm,_⟩
 refine have h:=dl;Jz (Jp<|Jg3 R ?_)
 cases h
 exact Ja2 ⟨(λg=>ren [(16,9)]<|b9 g),(aV,((ET .i64<|f.2.1-1):Int),bZ.2),ap,al,R,(Jz2 ((T8 i x k m a5 aE aF cm).wk R) [(16,9)] R),Fct,(((cX.mx cQ aU R (R:13+3=16)).stp Fct).map (ren [(16,9)]) R R),(aa.trans dy),aR⟩ R
 cases h
 exact Ja2 ⟨az,(f.1,((ET .i64<|f.2.1-1):Int),f.2.2),G,H,R,Fct,bg,X,aa,aR⟩ R
 rintro _ _ ⟨b5,M,aq,ak,rfl,_,_,_,_,rfl⟩
 refine have h:=yI dj;Jp (Jl3 1 R<|Ob h λ_ dW h=>Jw3 R call143 (ob (J:=λg=>mp [(10,2)] 1<|b5 g) Fct dW) ?_)
 rintro _ _ ⟨_,rfl,cD,c2,dA⟩
 exact Im0 cD 11 R (λcd _ d4 ei=>Tv<|Jd<|Jf3 R<|Ju<|Jb2 (l:=[.tmp 4]) results85 (Jq2 R R) R<|Oh h<|⟨(λg=>ren [(13,2)]<|cd g),aq,ak,(by simp only[(dA)]),Fct,((c2.mxz ei d4 R (R:11+2=13)).map (ren [(13,2)]) R R)⟩)
theorem jx {q y}{p0:VI}{p1:Int}(f:Rd Ri J w 0 q y p0){r:Int×Bool}(h:dp p0 p1=some r):Ret prog 146 [.slice q p0.length y,vi p1] w (λX a=>∃b,X= .tuple #[vi r.1,.bool r.2]/\Ent J w b a):=by
 refine Jp3 J func146 R ntmps146 R λaa=>Jf3 R<|Jl3 1 R<|Js3 R U31 R R<|Jb 1 R<|Jf3 R<|Jq<|Ob h λx K E=>Jt3 [0,1,6] (λd e a=>∃b,∃n:Int×Int,e=(7,vi n.1)::d/\Stp [] J w b a/\x=EW n) (Jv<|Ju3 [0,1,6] (λg d e a=>∃b,∃c:Int×Int,e=(7,vi c.1)::(8,vi c.2)::d/\Stp [] J w b a/\bQ (cW p0 p1) g c=some x) ⟨_,_,⟨J,((0:Int),((p0.length:Int):Int)),R,Jo3,K⟩,(KM R)⟩ ?_) ?_
 rintro g _ _ ⟨p,c,rfl,D,h⟩
 rcases g with _|g
 cases h
 refine Ob h λ_ h s=>Jq<|Jf3 R ?_
 refine Bk h (λL h=>Jy R<|Jc1<|Jt<|Jt ?_) (λL h=>Jx R<|Js<|Jp<|Jv<|Jl3 3 R<|Jf R (Ji2 U3 runUnderlying83 R R)<|Jf R (Bh R R R (by decide))<|Jf R (Ji2 runUnderlying83 U3 R R)<|Jb 1 R<|Jl3 2 R<|Ob h λ_ t h=>Jd3 R f t U31 Z2<|Jc3 R I2 ((f.stp D).gInt t)<|Jn 1 R<|Ob h λab Q h=>Jw3 R call165 (qp (J:=Mk p) Q)<|Kb λY j _=>Tv<|Jd<|Ob h λi h F=>Jt3 [0,1,6] (λd e a=>∃b,e=(7,vi i.1)::(8,vi i.2)::d/\Stp [] j Y b a) ?_ ?_)
 cases h
 exact have h:=s;Jb1 (Oh h<|Jw1 _ ⟨p,(c.1,c.2),R,Fct,R⟩<|KM R)
 exact Bk h (λM h=>Jy R<|Jg3 R<|Oh h<|Jw1 _ ⟨j,R,Jo3⟩<|KM R) (λM h=>Jx R<|Jg3 R<|Oh h<|Jw1 _ ⟨j,R,Jo3⟩<|KM R)
 rintro _ _ ⟨A,rfl,_⟩
 refine have h:=F;Jz ?_
 cases h
 exact Ja2 ⟨A,(i.1,i.2),R,Fct,s⟩ R
 rintro _ z ⟨k,n,rfl,C,rfl⟩
 refine have h:=yI E;Jp (Jl3 5 R<|Ob h λW h G=>Jk4 [31] 53 W k z 18 tv ?_ ?_)
 refine Bk h (λN h=>Jn 3 R<|Je4 R<|Jn 6 R<|Je4 R<|Je4 R<|Jn 2 R<|Je4 R<|Jn 3 R<|Oh h<|Jl4 tv R) (λN h=>Jn 2 R<|Ob h λac u h=>Jd3 R f u U31 Z2 (have m:=f.stp C;Jc3 R I2 (m.gInt u) (Jn 3 R<|Ob h λV h H=>Jk4 [31,35] 52 V k z 10 tv ?_ ?_)))
 refine Bk h (λO h=>Jn 2 R<|Ob h λ_ v h=>Jd3 R m v U31 Z2<|Jc3 R I2 (m.gInt v)<|Ob h λad S h=>Jw3 R call193 (je (J:=Mk k) S)<|Kb λZ o _=>Tv<|Jn 1 R<|Ob h λU h I=>Jk4 [31,35,42] 51 U o Z 3 tv ?_ ?_) (λO h=>Jn 3 R<|Je4 R<|Je4 R<|Jn 2 R<|Je4 R<|Jn 2 R<|Oh h<|Jl4 tv R)
 exact Bk h (λP h=>Jn 1 R<|Je4 R<|Jn 1 R<|Oh h<|Jl4 tv R) (λP h=>Jn 1 R<|Ob h λ_ T h=>Jw3 R call193 (je (J:=Mk o) T)<|Kb λ_ _ _=>Tv<|Jn 1 R<|Oh h<|Jv1 _ tv ⟨R,_,Fct⟩<|KM R)
 rintro _ _ _ ⟨rfl,_,_⟩
 exact have h:=I;Jn 1 R (Oh h<|Jv1 _ tv ⟨R,_,Fct⟩<|KM R)
 rintro _ _ _ ⟨rfl,_,_⟩
 exact have h:=H;Jn 1 R (Oh h<|Jv1 _ tv ⟨R,_,Fct⟩<|KM R)
 rintro _ _ _ ⟨rfl,B,_⟩
 exact have h:=G;Jb 2 R (Ju<|Jb2 (l:=[.tmp 4,.tmp 5]) results146 (Jq2 R<|Jq2 R R) R<|Oh h<|⟨B,R,Fct⟩)
theorem wl {aq aV}{p0:VV}{ar aW}{p1:VI}(b7:Rd Rs J w 0 aq aV p0) (ag:Rd Ri J w 0 ar aW p1){r:VV}(h:pG p0 p1=some r):Ret prog 96 [.slice aq p0.length aV,.slice ar p1.length aW] w (λcF a=>∃b aT aU,cF= .slice aT r.length aU/\Ent J w b a/\Oc (EZ Rs) 31 b a 2 aT aU r):=by
 refine Jp3 J func96 R ntmps96 R λc5=>Jf3 R<|Jl3 2 R<|Js3 R U32 R R<|Ob h λcN cy h=>Jw3 R call151 (wm (J:=Mk J) Gct cy) (Ks 4 cQ λc4 cU _ be bn bY=>Tv<|have ax:=bY;Jb 1 R (Jj3<|Jc4 be (ER EQ 4) 5 R Y180 j0 R λbs bw aX W ao bP=>Tv<|Jb 1 R<|Jq<|Jf3 R<|Ob h λaQ co cb=>Jt3 [0,1] (λd e a=>∃b,∃p:(List<|VB),∃ad ac,e=(6,.slice ad p.length ac)::d/\Stp [5,6,7,9,10] W aX b a/\Oc (ER EQ 4) 129 b a 5 ad ac p/\aQ=EW p) (Jv<|Ju3 [0,1,5] (λc d e a=>∃b m,∃B:(List<|VB),∃M D,e=(6,.slice M B.length D)::(7,vi m)::d/\Stp [5,6,7,9,10] W aX b a/\Oc (ER EQ 4) 129 b a 5 M D B/\0<=m/\ES ((p0.length:Int)-m)=c/\cntM (kC p0 cN) c m B=some aQ) ⟨_,_,⟨W,0,([]:List VB),bs,bw,R,Jo3,bP,(by decide),(by simp),co⟩,(KM R)⟩ ?_) ?_))
 rintro c _ cK ⟨C,m,B,M,D,rfl,bm,bW,aC,S,h⟩
 rcases c with _|c
 exact Jq<|Jl3 2 R<|Js3 R U32 R R<|Jb 1 R<|Jx2 R (dcf S)<|Jc1<|Jt<|Jt<|Jb1<|Oh h<|Jw1 _ ⟨C,B,M,D,R,Fct,bW,R⟩<|KM R
 refine Ob h λc8 h cg=>Jq<|Jl3 2 R<|Js3 R U32 R R<|Jb 1 R<|Jw2 R (dct S)<|Js<|Jp<|Jq<|Jv<|Jl3 2 R<|Ob h λda aF h=>Jd3 R ax.rdc aF U129 Z4<|Jc3 R I4 ((ax.stp<|ao.tr bm).rdc.gBool aF)<|Jd<|Ob h λai h cc=>Jt3 [0,1,5,7] (λd e a=>∃b G H,e=(6,.slice G ai.length H)::d/\Stp [5,6,7,9,10] C cK b a/\Oc (ER EQ 4) 129 b a 5 G H ai) ?_ ?_
 exact Bk h (λct h=>Jy R<|Jm3 1 R<|Jc4 C EQ 6 R Y129 cI R λbH bz _ bg _ b2=>Tv<|Jb4 bg (ER EQ 4) 7 [6] (parts:=[(0,.tmp 39)]) (cells:=[.slice bH ([]:VB).length bz]) (xs:=([([]:VB)]:List VB)) R Y180 j0 R (Jj4 ⟨_,_,R,b2⟩) λcV c3 _ bh _ b3=>Tv<|Ob h λ_ cB h=>Jd4 bh (ER EQ 4) 5 [7] R Y180 j0 R Fct b3.src (c7 R) cB R λbF bu _ bi _ b4=>Tv<|Jc 1 R<|Oh h<|Jw1 _ ⟨bi,bF,bu,R,Fct,b4⟩<|KM R) (λct h=>Jx R<|Jm3 4 R<|Ji4 C 6 [m] R Y31 bG R λcX cZ _ bb _ _=>Tv<|Ob h λa0 cz h=>Jw3 R call152 (uL (J:=Mk bb) Gct Gct Gct cz)<|Ks 9 cQ λbo bE _ bc _ bZ=>Tv<|Jb4 bc (ER EQ 4) 10 [9] (parts:=[(0,.tmp 35)]) (cells:=[.slice bo a0.length bE]) (xs:=([a0]:List VB)) R Y180 j0 R (Jj4 ⟨_,_,R,bZ⟩) λcY c2 _ bd _ b0=>Tv<|Ob h λ_ cA h=>Jd4 bd (ER EQ 4) 5 [10] R Y180 j0 R Fct b0.src (c7 R) cA R λbp bC _ bf _ b1=>Tv<|Jc 1 R<|Oh h<|Jw1 _ ⟨bf,bp,bC,R,Fct,b1⟩<|KM R)
 rintro _ _ ⟨ba,G,H,rfl,_,bX⟩
 refine have h:=cc;Jz (Jp<|Jg3 R<|wr2 aC S b7.len_le ▸ ?_)
 cases h
 exact Ja2 ⟨ba,m+1,ai,G,H,R,Fct,bX,nxz aC,nxm S,cg⟩ R
 rintro _ _ ⟨a9,p,ad,ac,rfl,bl,O,rfl⟩
 refine have h:=yI cb;Jp (Jj3<|Jc4 a9 (EZ<|Rs) 6 R Y32 bL R λbD bB _ bj Z _=>Tv<|Jb 1 R<|Jl3 1 R<|Js3 R U32 R R<|Ob h λn cC h=>Jl1 (J:=bj) (E:=EQ) (z:=(false:Bool)) 7 R R R R R R R Y129 cI R R R R R (λ_ _ _=>R) (Jv2 cC) λx v aZ Y aa b5=>Tv<|Jb 1 R<|Jq<|Jf3 R (have aA:=ag.len_le;Ob h λaR cp cd=>Jx1 (λe a=>∃b,∃q:VV×VB,∃N F,e=[(8,.slice N q.1.length F)]/\Stp [6,7,8,9] Y aZ b a/\Oc (EZ<|Rs) 31 b a 6 N F q.1/\Oc EQ 4 b a 7 x v q.2/\n.length=q.2.length/\aR=EW q) (Jv<|Ju3 [1,6,9] (λc d e a=>∃b g,∃f:VV×VB,∃y t,e=(8,.slice y f.1.length t)::(10,vi g)::d/\Stp [6,7,8,9] Y aZ b a/\Oc (EZ<|Rs) 31 b a 6 y t f.1/\Oc EQ 4 b a 7 x v f.2/\n.length=f.2.length/\0<=g/\ES ((p1.length:Int)-g)=c/\cntM (kD p1 p) c g f=some aR) ⟨_,_,⟨Y,0,(([]:VV),n),bD,bB,R,Jo3,Fct,b5,R,(by decide),(by simp),cp⟩,(KM R)⟩ ?_) ?_))
 rintro c _ cL ⟨al,g,f,y,t,rfl,ab,b6,af,U,aD,az,h⟩
 rcases c with _|c
 exact Jq<|Jl3 2 R<|Js3 R U31 R R<|Jb 1 R<|Jx2 R (dcf az)<|Jc1<|Jt<|Jt<|Jb1<|Oh h<|Jw1 _ ⟨al,(f.1,f.2),y,t,R,Fct,b6,af,U,R⟩<|KM R
 refine Ob h λc9 h aE=>have k:=dct az;Jq (Jl3 2 R<|Js3 R U31 R R<|Jb 1 R<|Jw2 R k<|Js<|Jp<|Jq<|Jv<|Jl3 2 R<|Ob h λcO aG h=>Jd3 R ag aG U31 Z2 (have P:=ag.stp (T6 bn ao bl Z aa ab);Jc3 R I2 (P.gInt aG) (Jb 1 R<|Jq<|Jl3 2 R<|Ob h λdb aH h=>Jf R (Jg2 af.rdc aH U129 Z4 R R U R)<|Jc3 R I4 (af.rdc.gBool aH)<|Jn 1 R<|Ob h λcD h ce=>Jk4 [1,6,8,9,10,11] 69 cD al cL 9 tv ?_ ?_)))
 refine Bk h (λcu h=>Jn 2 R<|Ob h λ_ aI h=>Jd3 R O.rdc aI U180 sizeOf129 ?_) (λcu h=>Jn 3 R<|Je4 R<|Jn 2 R<|Je4 R<|Jn 2 R<|Oh h<|Jl4 tv R)
 obtain⟨_,_,ay,ch⟩:=(O.stp (T3 Z aa ab)).rdc.gSl aI
 exact Jc3 R I129 ch<|Jn 1 R<|Ob h λ_ aJ h=>Jd3 R ay aJ U129 Z4<|Jc3 R I4 (ay.gBool aJ)<|Jn 2 R<|Oh h<|Jl4 tv R
 rintro _ _ _ ⟨rfl,aj,am⟩
 refine have h:=ce;Jd ?_
 refine Bk h (λcq h=>Jy R<|Js<|Jp<|Jj3<|Jc4 aj E6 8 R Y31 bG R λbx bt aY V an bK=>Tv<|Jb 1 R<|Jq<|Jf3 R<|Ob h λaS cn b8=>Jt3 [1,6,8,9,10] (λd e a=>∃b,∃i:VI×VB,∃K E,e=(12,.slice K i.1.length E)::d/\Stp [7,8] V aY b a/\Oc E6 2 b a 8 K E i.1/\Oc EQ 4 b a 7 x v i.2/\n.length=i.2.length/\aS=EW i) (Jv<|Ju3 [1,6,8,9,10,11] (λc d e a=>∃b s,∃j:VI×VB,∃A u,e=(12,.slice A j.1.length u)::(13,vi s)::d/\Stp [7,8] V aY b a/\Oc E6 2 b a 8 A u j.1/\Oc EQ 4 b a 7 x v j.2/\n.length=j.2.length/\0<=s/\ES ((p1.length:Int)-s)=c/\cntM (iZ p1 p cO) c s j=some aS) ⟨_,_,⟨V,0,(([]:VI),f.2),bx,bt,R,Jo3,bK,Fct,U,(by decide),(by simp),cn⟩,(KM R)⟩ ?_) ?_) (λcq h=>Jx R<|Jc1<|Jt<|Jb1<|Jp<|Jg3 R ?_)
 rintro c _ cH ⟨ak,s,j,A,u,rfl,ap,bN,au,T,aB,Q,h⟩
 rcases c with _|c
 exact Jq<|Jl3 2 R<|Js3 R U31 R R<|Jb 1 R<|Jx2 R (dcf Q)<|Jc1<|Jt<|Jt<|Jb1<|Oh h<|Jw1 _ ⟨ak,(j.1,j.2),A,u,R,Fct,bN,au,T,R⟩<|KM R
 refine Ob h λc6 h cf=>Jq<|Jl3 2 R<|Js3 R U31 R R<|Jb 1 R<|Jw2 R (dct Q)<|Js<|Jp<|Jq<|Jv<|Jl3 2 R<|Ob h λcP aK h=>Jd3 R P aK U31 Z2<|Jc3 R I2 ((P.stp<|T3 am an ap).gInt aK)<|Jb 1 R<|Jl3 2 R<|Ob h λ_ aL h=>Jd3 R O.rdc aL U180 sizeOf129 ?_
 have ae:=O.stp (T6 Z aa ab am an ap)
 obtain⟨_,_,av,ci⟩:=ae.rdc.gSl aL
 refine Jc3 R I129 ci<|Jn 1 R<|Ob h λdc aM h=>Jd3 R av aM U129 Z4<|Jc3 R I4 (av.gBool aM)<|Jn 1 R<|Ob h λcE h b9=>Jk4 [1,6,8,9,10,11,12,13,14] 96 cE ak cH 8 tv ?_ ?_
 refine Bk h (λcr h=>Jn 3 R<|Je4 R<|Jn 2 R<|Je4 R<|Jn 1 R<|Oh h<|Jl4 tv R) (λcr h=>Jn 2 R<|Ob h λ_ aN h=>Jd3 R ae.rdc aN U180 sizeOf129 ?_)
 obtain⟨_,_,aw,cj⟩:=ae.rdc.gSl aN
 exact Jc3 R I129 cj<|Jn 1 R<|Ob h λ_ aO h=>Jd3 R aw aO U129 Z4<|Jc3 R I4 (aw.gBool aO)<|Jn 1 R<|Oh h<|Jl4 tv R
 rintro _ cJ _ ⟨rfl,X,_⟩
 refine Jd<|Ob b9 λo h ca=>Jt3 [1,6,8,9,10,11,13] (λd e a=>∃b I L,e=(12,.slice I o.1.length L)::d/\Stp [7,8] X cJ b a/\Oc E6 2 b a 8 I L o.1/\Oc EQ 4 b a 7 x v o.2/\n.length=o.2.length) ?_ ?_
 exact Bk h (λcs h=>Jy R<|Js<|Oh h<|Jw1 _ ⟨X,A,u,R,Jo3,Fct,Fct,T⟩<|KM R) (λcs h=>Jx R<|Jl3 2 R<|Ji4 X 9 [cP] R Y31 bG R λcT c0 _ a3 _ bS=>Tv<|Ob h λ_ cv h=>Jd4 a3 E6 8 [] R Y31 bG R Fct (EV (bO _) bS.rdc) bJ cv R λbq br _ a4 _ _=>Tv<|Jb 1 R<|Jm3 2 R<|Ob h λ_ cw h=>Jf R (Jg2 au.rdc cw U129 Z4 R R T R) (Ob h λcR aP h=>Jk1 (J:=a4) (E:=EQ) 7 [] R R R R R R R R Z4 R R R R Fct aP λ_ a5 _ bT=>Tv<|have cm:n.length=cR.length:=T.trans (Ju2 aP).2.2.2.symm;Jo (Oh h<|Jw1 _ ⟨a5,bq,br,R,Fct,Fct,bT,cm⟩<|KM R)))
 rintro _ _ ⟨a2,I,L,rfl,_,bQ,bR,cl⟩
 refine have h:=ca;Jz (Jp<|Jg3 R<|wr2 aB Q P.len_le ▸ ?_)
 cases h
 exact Ja2 ⟨a2,s+1,(o.1,o.2),I,L,R,Fct,bQ,bR,cl,nxz aB,nxm Q,cf⟩ R
 rintro _ cG ⟨a1,i,K,E,rfl,_,bM,_,ck,rfl⟩
 refine have h:=yI b8;Jp (Jm3 2 R ?_)
 obtain⟨a6,_,cS⟩:=dg a1 cG 8
 refine Jb4 a6 (EZ<|Rs) 9 [] (parts:=[(0,.tmp 105)]) (cells:=[.slice K i.1.length E]) (xs:=([i.1]:VV)) R Y32 bL R (Jj4 ⟨_,_,R,(Sl.z1<|Sl.st cS bM.rdc)⟩) λc1 cW _ a7 _ bU=>Tv<|Ob h λcM cx h=>Jd4 a7 (EZ<|Rs) 6 [9] R Y32 bL R Fct bU.src (c7 R) cx R λbA bv _ a8 _ bV=>Tv<|Jc 1 R<|Jz<|Jp<|Jg3 R ?_
 have ah:ET .i64 (g+1)=g+1:=wr1 aD (Jn2 k) aA
 rw[ah]
 have k:=Jn2 k
 cases h
 exact Ja2 ⟨a8,g+1,(cM,i.2),bA,bv,R,Fct,bV,Fct,ck,by omega,by omega,aE⟩ R
 have ah:ET .i64 (g+1)=g+1:=wr1 aD (Jn2 k) aA
 rw[ah]
 have k:=Jn2 k
 cases h
 exact Ja2 ⟨aj,g+1,(f.1,f.2),y,t,R,Fct,Fct,Fct,U,by omega,by omega,aE⟩ R
 rintro _ _ ⟨bk,q,N,F,rfl,_,_,_,_,rfl⟩
 exact have h:=yI cd;Jp (Jf3 R<|Ju<|Jb2 (l:=[.tmp 4]) results96 (Jq2 R R) R<|Oh h<|⟨(λbI=>ren [(6,2)]<|bk bI),N,F,R,Fct,Fct⟩)
end
end Go.Proofs.YtfombamjdkihnaaGreat
