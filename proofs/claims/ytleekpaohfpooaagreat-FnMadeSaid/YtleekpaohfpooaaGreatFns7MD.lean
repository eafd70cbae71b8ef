/- The walks, part 7. By program. -/
import Derived.Test.YtleekpaohfpooaaGreatFns2MD
import Derived.Test.YtleekpaohfpooaaGreatFns3MD
import Derived.Test.YtleekpaohfpooaaGreatFns4MD
set_option linter.unusedVariables false
set_option linter.unusedSimpArgs false
open Go.Wk.Ep renaming bool → Do, own → Dp
open Int renaming toNat → Dq
open Go.IntKind renaming wrap → Dr
open Option.some renaming inj → Ds
open Go.Wk.Ow renaming nil → Dt
open Go.Wk.Sl renaming srcP → Du
open Sum renaming inr → Dv
namespace Go.Proofs.YtleekpaohfpooaaGreat
open Tryz
open Go Go.Wk Go.Proofs
set_option maxRecDepth 100000
set_option maxHeartbeats 1000000
section
variable {w:World}{J:Col}
theorem qU {S Z}{p0:VP}{T aa}{p1:VI}{p2:Int}(U:Rd Pair.rp J w 0 S Z p0) (M:Rd Ri J w 0 T aa p1){r:VI}(h:jt p0 p1 p2=some r):Ret prog 111 [.slice S p0.length Z,.slice T p1.length aa,vi p2] w (Pvs E6 2 J w r):=by
 unfold jt at h
 refine Jl3 J func111 R ntmps111 R λaN=>Jf3 R<|Je [1,1,2,2] R<|Jy3 J E6 2 R Y37 bS R λau aq be ae C aF=>Tv<|Jy3 ae E6 3 R Y37 bS R λao az ab B q aL=>Tv<|Jb 2 R<|Jq<|Jh3 [2,2,2] 1 R<|Jo3 R U37 R R<|Jb 1 R<|Ob h λY aR aO=>?_
 clear h
 refine Jx1 (λg a=>∃b,∃e:VI×VI,∃F I G H,g=[(7,.slice F e.1.length I),(8,.slice G e.2.length H)]/\Stp [2,3] B ab b a/\Oc E6 2 b a 2 F I e.1/\Oc E6 2 b a 3 G H e.2/\Y=Dv e) ?_ ?_
 refine Jv<|Jq3 [0,2,13,14] (λo z g a=>∃b f,∃c:VI×VI,∃j k n m,g=(7,.slice j c.1.length k)::(8,.slice n c.2.length m)::(15,vi f)::z/\Stp [2,3] B ab b a/\Oc E6 2 b a 2 j k c.1/\Oc E6 2 b a 3 n m c.2/\0<=f/\Dq ((p1.length:Int)-f)=o/\cntM (fW p0 p1 p2) o f c=some Y) ⟨_,_,⟨B,0,(([]:VI),([]:VI)),au,aq,ao,az,R,Jk3,(aF.stp q),aL,(by decide),(by simp),aR⟩,(KM R)⟩ ?_
 rintro o _ bg ⟨O,f,c,j,k,n,m,rfl,p,K,L,V,x,h⟩
 rcases o with _|o
 have y:=h;obtain⟨aY,h⟩:=exq y
 have N:=dcf x
 refine Jf3 R<|Jq<|Jx2 R N<|Jc1<|Jt<|Jt ?_
 cases h
 have h:=y
 refine Jb1 ?_
 cases h
 exact Jw1 _ ⟨O,(c.1,c.2),j,k,n,m,R,p.wk R,K,L,R⟩<|KM R
 obtain⟨aY,h,y⟩:=BI h;unfold fW at h
 have N:=dct x
 refine Jf3 R<|Jq<|Jw2 R N<|Js<|Jp<|Jq<|Jv<|Je [2,1,2] R<|Ob h λac W h=>Jd3 R M W U37 Z2<|Jc3 R I2 ((M.stp<|T3 C q p).gInt W)<|Jb 1 R<|Jh3 [2,2,2,2,1,2,1] 2 R<|Ob h λbn X h=>Jd3 R U X U69 Z127<|Je3 R U127 R Z37 ?_
 obtain⟨a7,aS,aQ⟩:=((U.stp (T3 C q p))).gSt X
 obtain⟨a4,bc,a5,bd,rfl,a8,aM⟩:=Pair.un aS
 refine Jc3 R I37 (λa aT=>aQ a aT 1 _ R)<|Jn 1 R<|Ob h λa0 aU h=>Js3 R C89 (cj (J:=Mk O) (Jj3 aM) aU) ?_
 rintro _ aZ ⟨ba,rfl,aA⟩
 obtain⟨A,i,bb⟩:=Ji aA 4 R
 refine Tv<|Jd<|Ob h λd h aP=>Jp3 [0,2,13,14,15] (λz g a=>∃b v t s u,g=(7,.slice v d.1.length t)::(8,.slice s d.2.length u)::z/\Stp [2,3] A aZ b a/\Oc E6 2 b a 2 v t d.1/\Oc E6 2 b a 3 s u d.2) ?_ ?_
 revert h
 cases a9:a0
 refine JF λh=>Jy R<|Ji3 [2,2,1,1,2] 2 R<|Je4 A 6 [ac] R Y37 bS R λa3 a1 bk ai E aI=>Tv<|Ob h λbp aW h=>Jz3 ai E6 3 [] R Y37 bS R (L.stp<|i.tr E) (Du (cc _) aI.rdc) bV aW R λay ax bl aj Q aJ=>Tv<|Jc 1 R ?_
 cases h
 exact Jw1 _ ⟨aj,j,k,ay,ax,R,(E.tr Q).wk R,(K.stp<|T3 i E Q),aJ⟩<|KM R
 refine JT λh=>Jx R<|Ji3 [2,2,1,1,2] 2 R<|Je4 A 6 [ac] R Y37 bS R λa2 a6 bi ag D aG=>Tv<|Ob h λbo aV h=>Jz3 ag E6 2 [] R Y37 bS R (K.stp<|i.tr D) (Du (cc _) aG.rdc) bV aV R λar ap bj ah P aH=>Tv<|Jc 1 R ?_
 cases h
 exact Jw1 _ ⟨ah,ar,ap,n,m,R,(D.tr P).wk R,aH,(L.stp<|T3 i D P)⟩<|KM R
 rintro _ bh ⟨af,v,t,s,u,rfl,am,aD,aE⟩
 have h:=aP
 refine Jz<|Jp<|Jg3 R<|wr2 V x M.len_le ▸ ?_
 cases h
 exact Ja2 ⟨af,f+1,(d.1,d.2),v,t,s,u,R,(T3 p i am).wk R,aD,aE,nxz V,nxm x,y⟩ R
 rintro _ bf ⟨ad,e,F,I,G,H,rfl,al,aB,aC,rfl⟩
 have h:=yI aO
 refine Jp<|Jh3 [2,2,1,2] 2 R<|Ob h λbq aX h=>Jz3 ad E6 2 [] R Y37 bS R aB (Du (cc _) aC.rdc) bV aX R λaw av bm ak an aK=>Tv<|Jb 1 R<|Ju<|Jb2 (l:=[.tmp 6]) results111 (Jq2 R R) R ?_
 cases h
 exact⟨ak,aw,av,R,(aN.stp<|T4 C q al an),aK⟩
theorem eB {s D}{p0:VL}{c1_0:Int}{t u}{e:VI}{v x}(j:Rd Place.rp J w 0 s D p0) (I:Rd Ri J w 0 t u e) (K:Bc J w 0 v 2 [vi c1_0]) (L:Bc J w 0 x 37 [.slice t e.length u]){r:Int}(h:cz p0 c1_0 e=some r):Ret prog 241 [.slice s p0.length D,.func (.func 242) #[] #[.pointer (some ⟨v,0,none⟩),.pointer (some ⟨x,0,none⟩)]] w (Pvi J w r):=by
 unfold cz at h
 refine Jl3 J func241 R ntmps241 R λy=>Jf3 R<|Jq<|Jh3 [2,2,2] 1 R<|Jo3 R U80 R R<|Jb 1 R<|Ob h λC N z=>?_
 clear h
 refine Jp3 [1] (λg i m=>∃n,i=g/\Stp [] J w n m/\C=Dv ()) ?_ ?_
 refine Jv<|Jq3 [0,1,7] (λd g i m=>∃n b,i=(8,vi b)::g/\Stp [] J w n m/\0<=b/\Dq ((p0.length:Int)-b)=d/\cntM (cr p0 c1_0 e) d b ()=some C) ⟨_,_,⟨J,0,R,Jk3,(by decide),(by simp),N⟩,(KM R)⟩ ?_
 rintro d _ ac ⟨p,b,rfl,a,A,f,h⟩
 rcases d with _|d
 have c:=h;obtain⟨Q,h⟩:=exq c
 have k:=dcf f
 refine Jf3 R<|Jq<|Jx2 R k<|Jc1<|Jt<|Jt ?_
 cases h
 have h:=c
 refine Jb1 ?_
 cases h
 exact Jw1 _ ⟨p,R,a.wk R,R⟩<|KM R
 obtain⟨Q,h,c⟩:=BI h;unfold cr at h
 have k:=dct f
 refine Jf3 R<|Jq<|Jw2 R k<|Js<|Jp<|Jq<|Jv<|Jf3 R<|Jh3 [2,2,2,2,1,1] 3 R<|Ob h λS B h=>Jd3 R j B U80 Z88 ?_
 obtain⟨V,O,M⟩:=((j.stp a)).gSt B
 obtain⟨U,Z,rfl,H⟩:=Place.un O
 refine Jc4 tv R (Jd4 (haE M) I88 Z88 R)<|Ob h λT P h=>WO.callV R R R R R R R R call242 (rX (J:=Mk p) (p0:=S) (Jj3 H) (Jj3<|I.stp a) ((K.stp a).map (mp [] 0) R R) ((L.stp a).map (mp [] 0) R R) P) ?_
 rintro _ aa ⟨X,rfl,G⟩
 obtain⟨o,q,Y⟩:=Ji G 2 R
 refine Tv<|Jd ?_
 revert h
 cases W:T
 refine JF λh=>Jy R<|Js<|Jz<|Jp<|Jg3 R<|wr2 A f j.len_le ▸ ?_
 cases h
 exact Ja2 ⟨o,b+1,R,(a.tr q).wk R,nxz A,nxm f,c⟩ R
 refine JT λh=>Jx R<|Jf3 R<|Ju<|Ja1<|Jw<|Jw ?_
 cases h
 obtain rfl:=Ds c
 have h:=yL z
 refine Ja1<|Jr2<|Jw<|Jb2 (l:=[.tmp 4]) results241 (Jq2 R R) R ?_
 cases h
 exact⟨o,R,(y.stp<|a.tr q)⟩
 rintro _ ab ⟨E,rfl,F,rfl⟩
 have h:=yI z
 refine Jp<|Jf3 R<|Ju<|Jb2 (l:=[.tmp 4]) results241 (Jq2 R R) R ?_
 cases h
 exact⟨E,R,(y.stp F)⟩
theorem qV {C O}{p0:VP}{D P}{p1:VI}{p2:Int}(E:Rd Pair.rp J w 0 C O p0) (u:Rd Ri J w 0 D P p1){r:Int}(h:jw p0 p1 p2=some r):Ret prog 113 [.slice C p0.length O,.slice D p1.length P,vi p2] w (Pvi J w r):=by
 unfold jw at h
 refine Jl3 J func113 R ntmps113 R λv=>Jf3 R<|Jf3 R<|Jq<|Jh3 [2,2,2] 1 R<|Jo3 R U37 R R<|Jb 1 R<|Ob h λL ag aa=>?_
 clear h
 refine Jx1 (λb a=>∃d,∃c:Int×Int,b=[(7,vi c.1),(8,vi c.2)]/\Stp [] J w d a/\L=Dv c) ?_ ?_
 refine Jv<|Jq3 [0,2,11,12] (λi g b a=>∃d f,∃e:Int×Int,b=(7,vi e.1)::(8,vi e.2)::(13,vi f)::g/\Stp [] J w d a/\0<=f/\Dq ((p1.length:Int)-f)=i/\cntM (fX p0 p1 p2) i f e=some L) ⟨_,_,⟨J,0,(((-1):Int),((-1):Int)),R,Jk3,(by decide),(by simp),ag⟩,(KM R)⟩ ?_
 rintro i _ aR ⟨z,f,e,rfl,j,F,k,h⟩
 rcases i with _|i
 have m:=h;obtain⟨al,h⟩:=exq m
 have x:=dcf k
 refine Jf3 R<|Jq<|Jx2 R x<|Jc1<|Jt<|Jt ?_
 cases h
 have h:=m
 refine Jb1 ?_
 cases h
 exact Jw1 _ ⟨z,(e.1,e.2),R,j.wk R,R⟩<|KM R
 obtain⟨al,h,m⟩:=BI h;unfold fX at h
 have x:=dct k
 refine Jf3 R<|Jq<|Jw2 R x<|Js<|Jp<|Jq<|Jv<|Jh3 [2,2,1,2,2] 1 R<|Ob h λaS G h=>Jd3 R u G U37 Z2<|Jc3 R I2 ((u.stp j).gInt G)<|Jb 2 R<|Jq<|Jh3 [2,2,2,2,1,2,1] 2 R<|Ob h λaT H h=>Jd3 R E H U69 Z127<|Je3 R U127 R Z37 ?_
 have t:=E.stp j
 obtain⟨ax,ah,ae⟩:=(t).gSt H
 obtain⟨ar,aK,au,aL,rfl,Y,az⟩:=Pair.un ah
 refine Jc3 R I37 (λa y=>ae a y 0 _ R)<|Jn 1 R<|Ob h λap aj h=>Js3 R C89 (cj (J:=Mk z) (Jj3 Y) aj) ?_
 rintro _ am ⟨aG,rfl,W⟩
 obtain⟨n,A,aI⟩:=Ji W 2 R
 refine Tv<|Jd<|Ob h λM h ab=>Jp3 [0,2,8,9,10,11,12,13] (λg b a=>∃d,b=(7,vi M)::g/\Stp [] n am d a) ?_ ?_
 revert h
 cases aB:ap
 refine JF λh=>Jy R<|Js ?_
 cases h
 exact Jw1 _ ⟨n,R,Jk3⟩<|KM R
 refine JT λh=>Jx R<|Jg3 R ?_
 cases h
 exact Jw1 _ ⟨n,R,Jk3⟩<|KM R
 rintro _ aO ⟨Q,rfl,B⟩
 have h:=ab
 refine Jp<|Jh3 [2,2,2,2,1,2,1] 2 R<|Ob h λaU I h=>Jd3 R t I U69 Z127<|Je3 R U127 R Z37 ?_
 obtain⟨ay,ai,af⟩:=((t.stp (A.tr B))).gSt I
 obtain⟨av,aM,aw,aN,rfl,aA,Z⟩:=Pair.un ai
 refine Jc3 R I37 (λa y=>af a y 1 _ R)<|Jn 1 R<|Ob h λaq ak h=>Js3 R C89 (cj (J:=Mk Q) (Jj3 Z) ak) ?_
 rintro _ an ⟨aH,rfl,X⟩
 obtain⟨o,U,aJ⟩:=Ji X 4 R
 refine Tv<|Jd<|Ob h λN h ac=>Jp3 [0,2,7,11,12,13] (λg b a=>∃d,b=(8,vi N)::g/\Stp [] o an d a) ?_ ?_
 revert h
 cases aC:aq
 refine JF λh=>Jy R<|Js ?_
 cases h
 exact Jw1 _ ⟨o,R,Jk3⟩<|KM R
 refine JT λh=>Jx R<|Jg3 R ?_
 cases h
 exact Jw1 _ ⟨o,R,Jk3⟩<|KM R
 rintro _ aP ⟨S,rfl,V⟩
 have h:=ac
 refine Jz<|Jp<|Jg3 R<|wr2 F k u.len_le ▸ ?_
 cases h
 exact Ja2 ⟨S,f+1,(M,N),R,(T5 j A B U V).wk R,nxz F,nxm k,m⟩ R
 rintro _ ao ⟨T,c,rfl,s,rfl⟩
 have h:=yI aa
 refine Jp<|Jq<|Jv<|Jh3 [2,2,2,2,2,2,2] 3 R<|Ob h λK h ad=>Jg4 [7,8] 41 K T ao [(3,2),(4,2),(5,2)] [(6,2)] tv ?_ ?_
 revert h
 cases aD:decide (c.1<0)
 refine JF λh=>Jn 3 R ?_
 cases h
 exact Jh4 tv R
 refine JT λh=>Jn 3 R ?_
 cases h
 exact Jh4 tv R
 rintro _ aQ _ ⟨rfl,p,q⟩
 have h:=ad
 refine Jb 1 R ?_
 revert h
 cases aE:K
 refine JF λh=>Jy R<|Jf3 R ?_
 revert h
 cases aF:decide (c.2<c.1)
 refine JF λh=>Jy R<|Js<|Jz<|Jp<|Jf3 R<|Ju<|Jb2 (l:=[.tmp 6]) results113 (Jq2 R R) R ?_
 cases h
 exact⟨p,R,(v.stp<|s.tr q)⟩
 refine JT λh=>Jx R<|Jf3 R<|Ju<|Ja1<|Jw<|Jb2 (l:=[.tmp 6]) results113 (Jq2 R R) R ?_
 cases h
 exact⟨p,R,(v.stp<|s.tr q)⟩
 refine JT λh=>Jx R<|Jf3 R<|Ju<|Ja1<|Jw<|Jb2 (l:=[.tmp 6]) results113 (Jq2 R R) R ?_
 cases h
 exact⟨p,R,(v.stp<|s.tr q)⟩
theorem sK {aQ aN aL aM}{p0:Det}{aO aR aP aS}{p1:Det}{p2:Int}(a7:Rd Rs J w 0 aQ aN p0.Next) (cv:Rd Pair.rp J w 0 aL aM p0.Pairs) (a8:Rd Rs J w 0 aO aR p1.Next) (cw:Rd Pair.rp J w 0 aP aS p1.Pairs){r:Det×Bool}(h:fL p0 p1 p2=some r):Ret prog 186 [.agg #[.slice aQ p0.Next.length aN,.slice aL p0.Pairs.length aM],.agg #[.slice aO p1.Next.length aR,.slice aP p1.Pairs.length aS],vi p2] w (λcU a=>∃(b:Col) (bm:Option Addr) (bo:Nat) (bn:Option Addr) (bp:Nat),cU= .tuple #[.agg #[.slice bm r.1.Next.length bo,.slice bn r.1.Pairs.length bp],.bool r.2]/\Ent J w b a/\Oc (Dp E6 2) 37 b a 2 bm bo r.1.Next/\Oc Pair.ep127 127 b a 3 bn bp r.1.Pairs):=by
 unfold fL at h
 refine Jl3 J func186 R ntmps186 R λa9=>Je [1,1,1,2] R<|Jt3 J 2 R λda dt bE B aX=>Tv<|Jt3 bE 3 R λdb dN bF t a5=>Tv<|Ju3 bF 4 R X71 R λdc dS bt j aU=>Tv<|Jb 1 R<|Je [1,1,2] R<|Je4 bt 5 [0,0] R Y37 bS R λbR bL dA bA f ce=>Tv<|Jx3 bA (Dp E6 2) 6 [5] (parts:=[(0,.tmp 16)]) (cells:=[.slice bR ([0,0]:VI).length bL]) (xs:=([([0,0]:VI)]:VV)) R Y31 bW R (Jf4 ⟨_,_,R,ce⟩) λbN bX dH bD g ck=>Tv<|Jb 1 R<|Je [2,1,1] R<|Jf R (Jj4 [.slice none 0 0,.slice none 0 0] R)<|Ju3 bD 7 R X71 R λaT dK Q d cl=>Tv<|Ji4 Q 7 R Z71 R cl R λbq e cm=>Tv<|Jd<|Jq<|Jf3 R<|Ob h λbk cF bb=>?_
 clear h
 refine Jp3 [3,4,6,9] (λi o a=>∃b,∃y:VV×Int×VV,∃ar au N O,o=(8,.slice ar y.1.length au)::i/\Stp [6,7,8,9,10,12,13] Q bq b a/\Oc (Dp E6 2) 37 b a 6 ar au y.1/\Oc (Dp E6 2) 37 b a 8 N O y.2.2/\Bc b a 7 aT 71 [.slice N y.2.2.length O,.slice none 0 0]/\bk=Dv y) ?_ ?_
 refine Jv<|Jq3 [2,3,4,6,9] (λm i o a=>∃b,∃c:VV×Int×VV,∃I L ac aa,o=(8,.slice I c.1.length L)::(10,vi c.2.1)::i/\Stp [6,7,8,9,10,12,13] Q bq b a/\Oc (Dp E6 2) 37 b a 6 I L c.1/\Oc (Dp E6 2) 37 b a 8 ac aa c.2.2/\Bc b a 7 aT 71 [.slice ac c.2.2.length aa,.slice none 0 0]/\cd (ik p0 p1 p2) m c=some bk) ⟨_,_,⟨Q,((([([0,0]:VI)]:VV):VV),(0:Int),([]:VV)),bN,bX,none,0,R,Jk3,(ck.stp<|d.tr e),Dt,cm,cF⟩,(KM R)⟩ ?_
 rintro m _ dM ⟨aG,c,I,L,ac,aa,rfl,s,aY,aZ,a0,h⟩
 rcases m with _|m
 cases h
 obtain⟨dn,h,aA⟩:=BI h;unfold ik at h
 refine Jq<|Jh3 [2,2,2,2] 2 R<|Jo3 R U31 R R<|Jb 1 R ?_
 revert h
 cases dh:decide (c.2.1<(c.1.length:Int))
 refine JF λh=>Jy R<|Jc1<|Jt<|Jt ?_
 cases h
 have h:=aA
 refine Jb1 ?_
 cases h
 exact Jw1 _ ⟨aG,(c.1,c.2.1,c.2.2),I,L,ac,aa,R,s.wk R,aY,aZ,a0,R⟩<|KM R
 refine JT λh=>Jx R<|Js<|Jp<|Jq<|Jv<|Je [1,2] R<|Jy3 aG E6 9 R Y37 bS R λbU bT br ai k cq=>Tv<|Jb 1 R<|Jq<|Jf3 R<|Ob h λ_ cI h=>?_
 have cz:=jG cI
 refine Ob h λbl cH cx=>?_
 clear h
 refine Jp3 [2,3,4,6,9,10] (λi o a=>∃b,∃n:VV×VI,∃ae W X ab,o=(8,.slice ae n.1.length W)::(11,.slice X n.2.length ab)::i/\Stp [6,9,12,13] ai br b a/\Oc (Dp E6 2) 37 b a 6 ae W n.1/\Oc E6 2 b a 9 X ab n.2/\bl=Dv n) ?_ ?_
 refine Jv<|Jq3 [2,3,4,6,9,10] (λm i o a=>∃b v,∃u:VV×VI,∃M K ad V,o=(8,.slice M u.1.length K)::(11,.slice ad u.2.length V)::(12,vi v)::i/\Stp [6,9,12,13] ai br b a/\Oc (Dp E6 2) 37 b a 6 M K u.1/\Oc E6 2 b a 9 ad V u.2/\0<=v/\Dq (p2-v)=m/\cntM (fB p0 p1 c) m v u=some bl) ⟨_,_,⟨ai,0,(c.1,([]:VI)),I,L,bU,bT,R,Jk3,(aY.stp k),cq,(by decide),(by simp),cH⟩,(KM R)⟩ ?_
 rintro m _ dP ⟨S,v,u,M,K,ad,V,rfl,D,ay,a1,cA,ba,h⟩
 rcases m with _|m
 have ag:=h;obtain⟨cT,h⟩:=exq ag
 have E:=dcf ba
 refine Jq<|Jf3 R<|Jx2 R E<|Jc1<|Jt<|Jt ?_
 cases h
 have h:=ag
 refine Jb1 ?_
 cases h
 exact Jw1 _ ⟨S,(u.1,u.2),M,K,ad,V,R,D.wk R,ay,a1,R⟩<|KM R
 obtain⟨cT,h,ag⟩:=BI h;unfold fB at h
 have E:=dct ba
 refine Jq<|Jf3 R<|Jw2 R E<|Js<|Jp<|Jq<|Jv<|Jq<|Js1 (J:=S) [0,2,6] none [(0,2),(2,2),(3,2),(4,2),(10,2),(1,0),(5,0),(6,2),(7,0),(8,2),(9,0),(11,2),(12,0),(13,2)] [] (by kernel_rfl) (by kernel_rfl) λdQ x=>Je3 R U71 R Z31<|Jn 2 R<|Ob h λdV bc h=>Jd3 R ay.rdc bc U31 Z37<|Jn 1 R<|Jg R (Jd2 I31 R R<|hvC ((aX.stp<|T10 t j f g d e s k D x).ld 0 R R) R) ?_
 have az:=ay.stp x
 obtain⟨c5,dp,a2,cB⟩:=az.rdc.gSl bc
 refine Jg R (Jd2 I37 R R<|hvC cB R)<|Ob h λdW bd h=>Jd3 R a2 bd U37 Z2<|Jg R (Jd2 I2 R R<|hvC (a2.gInt bd) R)<|Ob h λdX be h=>Jd3 R a7 be U31 Z37 ?_
 obtain⟨c6,dq,a3,cC⟩:=(a7.stp (T11 B t j f g d e s k D x)).gSl be
 refine Jg R (Jd2 I37 R R<|hvC cC R)<|Ob h λaB bf h=>Jd3 R a3 bf U37 Z2<|Jg R (Jd2 I2 R R<|hvC (a3.gInt bf) R)<|Jn 1 R<|Jt1<|Jd<|Jq<|Js1 (J:=S) [0,3,6] none [(0,2),(2,2),(3,2),(4,2),(10,2),(1,0),(5,0),(6,2),(7,0),(8,2),(9,0),(11,2),(12,0),(13,2)] [] (by kernel_rfl) (by kernel_rfl) λdR H=>Je3 R U71 R Z31<|Jn 2 R<|Ob h λdY bg h=>Jd3 R az.rdc bg U31 Z37<|Jn 1 R<|Jg R (Jd2 I31 R R<|hvC ((a5.stp<|T10 j f g d e s k D x H).ld 0 R R) R) ?_
 have af:=az.stp H
 obtain⟨c7,dr,a4,cD⟩:=af.rdc.gSl bg
 refine Jg R (Jd2 I37 R R<|hvC cD R)<|Ob h λdZ bh h=>Jd3 R a4 bh U37 Z2<|Jg R (Jd2 I2 R R<|hvC (a4.gInt bh) R)<|Ob h λd0 bi h=>Jd3 R a8 bi U31 Z37 ?_
 obtain⟨c8,ds,a6,cE⟩:=(a8.stp (T12 B t j f g d e s k D x H)).gSl bi
 refine Jg R (Jd2 I37 R R<|hvC cE R)<|Ob h λaC bj h=>Jd3 R a6 bj U37 Z2<|Jg R (Jd2 I2 R R<|hvC (a6.gInt bj) R)<|Jn 1 R<|Jt1<|Jd<|Jh3 [2,2,2,1,2] 3 R<|Ob h λcW cK h=>Js3 R call95 (tt (J:=Mk S) (Jj3 af.rdc) cK) ?_
 rintro _ cV ⟨dl,rfl,b2⟩
 obtain⟨ak,U,dm⟩:=Ji b2 10 R
 refine Tv<|Jb 1 R<|Jq<|Jf3 R<|Ob h λP h cy=>Jp3 [2,3,4,6,9,10,11,12] (λi o a=>∃b Y Z,o=(8,.slice Y P.1.length Z)::(15,vi P.2)::i/\Stp [6,12,13] ak cV b a/\Oc (Dp E6 2) 37 b a 6 Y Z P.1) ?_ ?_
 revert h
 cases di:decide (cW<0)
 refine JF λh=>Jy R<|Js ?_
 cases h
 exact Jw1 _ ⟨ak,M,K,R,Jk3,(af.stp U)⟩<|KM R
 refine JT λh=>Jx R<|Jh3 [2,2,2] 1 R<|Jo3 R U31 R R<|Jb 1 R<|Ji3 [2,2,2,1,1,1,2] 3 R<|Je4 ak 12 [aB,aC] R Y37 bS R λbQ bO dU bH aK cu=>Tv<|Jx3 bH (Dp E6 2) 13 [12] (parts:=[(0,.tmp 68)]) (cells:=[.slice bQ ([aB,aC]:VI).length bO]) (xs:=([([aB,aC]:VI)]:VV)) R Y31 bW R (Jf4 ⟨_,_,R,cu⟩) λde c0 du bu aH b3=>Tv<|Ob h λd1 cL h=>Jz3 bu (Dp E6 2) 6 [13] R Y31 bW R (af.stp<|T3 U aK aH) b3.src (c9 R) cL R λbY bP dv bv bI b4=>Tv<|Jc 1 R ?_
 cases h
 exact Jw1 _ ⟨bv,bY,bP,R,(T3 aK aH bI).wk R,b4⟩<|KM R
 rintro _ dT ⟨bG,Y,Z,rfl,aJ,ct⟩
 have h:=cy
 refine Jp<|Ji3 [2,2,1,1,2] 2 R<|Je4 bG 12 [P.2] R Y37 bS R λc1 cY dw bw am b5=>Tv<|Ob h λcX cM h=>Jz3 bw E6 9 [] R Y37 bS R (a1.stp<|T5 x H U aJ am) (Du (cc _) b5.rdc) bV cM R λbM bK dx bx aI b6=>Tv<|Jc 1 R<|Jz<|Jp<|Jg3 R ?_
 have cJ:Dr .i64 (v+1)=v+1:=wr1 cA (Jn2 E) cz
 rw[cJ]
 have E:=Jn2 E
 cases h
 exact Ja2 ⟨bx,v+1,(P.1,cX),Y,Z,bM,bK,R,(T7 D x H U aJ am aI).wk R,(ct.stp<|am.tr aI),b6,by omega,by omega,ag⟩ R
 rintro _ dO ⟨aj,n,ae,W,X,ab,rfl,G,cr,cs,rfl⟩
 have h:=yI cx
 refine Jp<|Jq<|Jh3 [2,2,2] 1 R<|Jo3 R U31 R R<|Jb 1 R ?_
 revert h
 cases dg:decide (48<(n.1.length:Int))
 refine JF λh=>Jy R<|Js<|Jp<|Ja [2,1,2,1,1,2,1] R<|Je3 R U71 R Z31 ?_
 have aV:=a0.stp (k.tr G)
 refine Jc3 R I31 (aV.ld 0 R R)<|Jn 1 R<|Jx3 aj (Dp E6 2) 10 [9] (parts:=[(0,.tmp 81)]) (cells:=[.slice X n.2.length ab]) (xs:=([n.2]:VV)) R Y31 bW R (Jf4 ⟨_,_,R,cs⟩) λc3 df dz bz T b8=>Tv<|Ob h λaD cN h=>Jz3 bz (Dp E6 2) 8 [10] R Y31 bW R (aZ.stp<|T3 k G T) b8.src (c9 R) cN R λaw av dB aE an b9=>Tv<|Je3 R U71 R Z31<|Jv3 aE 7 (off:=0) (vc:=[.slice aw aD.length av]) (cs':=[.slice aw aD.length av,.slice none 0 0]) R Z31 R (aV.stp<|T.tr an) R λdC ao ca=>Tv<|Jo<|Jz<|Jp<|Jg3 R ?_
 cases h
 exact Ja2 ⟨aE,(n.1,((Dr .i64<|c.2.1+1):Int),aD),ae,W,aw,av,R,(T6 s k G T an ao).wk R,(cr.stp<|T3 T an ao),(b9.stp ao),ca,aA⟩ R
 refine JT λh=>Jx R<|Je [2,1,2] R<|Jf R (Jj4 [.slice none 0 0,.slice none 0 0] R)<|Ji4 aj 4 R Z71 R (aU.stp<|T7 f g d e s k G) R λdy bJ b7=>Tv<|Jb 1 R<|Ju<|Jw<|Ja1<|Jw<|Jw ?_
 cases h
 obtain rfl:=Ds aA
 have h:=yL bb
 refine Ja1<|Jr2<|Jw<|Jb2 (l:=[.cell 6 71,.tmp 7]) results186 (cg R b7 I71 Z71 R<|Jq2 R R) R ?_
 cases h
 exact⟨aj,none,0,none,0,R,(a9.stp<|T11 B t j f g d e s k G bJ),Dt,Dt⟩
 rintro _ dL ⟨aF,y,ar,au,N,O,rfl,C,cn,co,cp,rfl⟩
 have h:=yI bb
 refine Jp<|Jq<|Js1 (J:=aF) [2,3] none [(0,2),(2,2),(4,2),(6,2),(1,0),(5,0),(3,1),(7,1),(8,1),(9,2),(10,1)] [] (by kernel_rfl) (by kernel_rfl) λdD p=>Je3 R U71 R Z69<|Jn 1 R<|Je3 R U71 R Z69<|Jn 1 R<|Jg R (Jd2 I69 R R<|hvC ((aX.stp<|T8 t j f g d e C p).ld 1 R R) R)<|Jg R (Jd2 I69 R R<|hvC ((a5.stp<|T7 j f g d e C p).ld 1 R R) R)<|Ob h λd2 cO h=>?_
 have aW:=cn.stp p
 refine Js3 R call98 (pe (J:=Mk aF) (Jj3<|cv.stp<|T9 B t j f g d e C p) (Jj3 aW.rdc) cO) ?_
 rintro _ dE ⟨dj,c4,dd,rfl,b0,cb⟩
 obtain⟨bB,q,cR⟩:=Ji b0 9 R
 refine⟨(q.cl R),Ob h λd3 cP h=>Js3 R call98 (pe (J:=Mk bB) (Jj3<|cw.stp<|T10 B t j f g d e C p q) (Jj3 (aW.stp q).rdc) cP) ?_⟩
 rintro _ dF ⟨dk,c2,cZ,rfl,b1,cf⟩
 obtain⟨bC,z,cS⟩:=Ji b1 12 R
 have al:=(q.tr z)
 refine⟨(al.cl R),Ob h λbs cQ h=>Jm1 (J:=bC) (E:=Pair.ep127) 11 [14] R R R R R R R R R Y69 cG R R R R ((cb.mx Pair.no127 cR R (R:9+2=11)).stp z) (cf.mx Pair.no127 cS R (R:12+2=14)).src (c9 R) cQ R λax aq dG ah A ch=>⟨((al.tr A).cl R),Je3 R U71 R Z69<|Jv3 ah 7 (off:=1) (vc:=[.slice ax bs.length aq]) (cs':=[.slice N y.2.2.length O,.slice ax bs.length aq]) R Z69 R (cp.stp<|T4 p q z A) R λdI F ci=>⟨((T3 al A F).cl R),Jt1<|Jd<|Je [1,1,2] R<|Jc4 tv R (Jd4 (haE ci.cells) I71 Z71 R)<|Ji4 ah 4 R Z71 R (aU.stp<|T10 f g d e C p q z A F) R λdJ ap cj=>Tv<|Jb 1 R<|Ju<|Jb2 (l:=[.cell 6 71,.tmp 7]) results186 (cg R cj I71 Z71 R<|Jq2 R R) R ?_⟩⟩⟩
 cases h
 exact⟨(λbZ=>ren [(8,2),(11,3)]<|ah bZ),N,O,ax,aq,R,((a9.stp<|T14 B t j f g d e C p q z A F ap).map (ren [(8,2),(11,3)]) R R),((co.stp<|T6 p q z A F ap).map (ren [(8,2),(11,3)]) R R),((ch.stp<|F.tr ap).map (ren [(8,2),(11,3)]) R R)⟩
theorem tw {p0:Sig}{bb be bc a7}{p1:Machine}{bd ba a9 a8}{p2:Det}(bu:Rd Rs J w 0 bb be p1.Next) (bv:Rd Rs J w 0 bc a7 p1.Out) (bw:Rd Rs J w 0 bd ba p2.Next) (dN:Rd Pair.rp J w 0 a9 a8 p2.Pairs){r:l30Graph×Bool}(h:j7 p0 p1 p2=some r):Ret prog 205 [.agg #[vi p0.In,vi p0.Out],.agg #[.slice bb p1.Next.length be,.slice bc p1.Out.length a7],.agg #[.slice bd p2.Next.length ba,.slice a9 p2.Pairs.length a8]] w (λds a=>∃(b:Col) (bM:Option Addr) (bQ:Nat) (bN:Option Addr) (bR:Nat) (bO:Option Addr) (bT:Nat) (bP:Option Addr) (bU:Nat),ds= .tuple #[.agg #[.slice bM r.1.of.length bQ,.slice bN r.1.by0.length bR,.slice bO r.1.next.length bT,.slice bP r.1.letters.length bU],.bool r.2]/\Ent J w b a/\Oc E6 2 b a 2 bM bQ r.1.of/\Oc E6 2 b a 3 bN bR r.1.by0/\Oc (Dp E6 2) 37 b a 4 bO bT r.1.next/\Oc (Dp E6 2) 37 b a 5 bP bU r.1.letters):=by
 unfold j7 at h
 refine Jl3 J func205 R ntmps205 R λbx=>Je [1,1,1,1,2] R<|Jt3 J 2 R λdB d2 ce P cZ=>Tv<|Jt3 ce 3 R λdC el ch D dc=>Tv<|Jt3 ch 4 R λdD ep b3 y cE=>Tv<|Ju3 b3 5 R zeroValue216 R λdE d6 b5 u bm=>Tv<|Jb 1 R<|Je [2,1,2] R<|Jf R (Jj4 [.slice none 0 0,.slice none 0 0,.slice none 0 0,.slice none 0 0] R)<|Jt3 b5 6 R λay bY aA n cR=>Tv<|Jb 1 R<|Jh3 [2,1] 1 R ?_
 have cU:Oc E6 2 aA bY 7 none 0 ([]:VI):=Dt
 have cV:Oc E6 2 aA bY 8 none 0 ([]:VI):=Dt
 refine Ob h λb2 dl h=>Js3 R call254 (qg (J:=λB=>mp [(7,2),(8,3),(6,4)] 0<|aA B) (p0:=(⟨([]:VI),([]:VI),([]:VV),([]:VV)⟩:l30Graph)) (cU.map (mp [(7,2),(8,3),(6,4)] 0) R R) (cV.map (mp [(7,2),(8,3),(6,4)] 0) R R) Sl.nil Sl.nil (cR.map (mp [(7,2),(8,3),(6,4)] 0) R R) dl) ?_
 rintro _ b0 ⟨dT,cn,cw,cr,cm,rfl,cC,cW,cX,cY⟩
 obtain⟨aB,o,aU⟩:=Ji cC 9 R
 refine Tv<|Jd<|Jq<|Jf3 R<|Ob h λbK dh bz=>?_
 clear h
 refine Jp3 [6,8] (λv x a=>∃b,∃q:Int×VI×VI×VV×VV,∃av af ab ac al ae ag aa,x=v/\Stp [11,12,13,14,15,16,17,18,19,24,25,26] aB b0 b a/\Oc E6 2 b a 11 av af q.2.1/\Oc E6 2 b a 12 ab ac q.2.2.1/\Oc (Dp E6 2) 37 b a 14 al ae q.2.2.2.1/\Oc (Dp E6 2) 37 b a 15 ag aa q.2.2.2.2/\Bc b a 13 ay 216 [.slice av q.2.1.length af,.slice ab q.2.2.1.length ac,.slice al q.2.2.2.1.length ae,.slice ag q.2.2.2.2.length aa]/\bK=Dv q) ?_ ?_
 refine Jv<|Jq3 [3,4,5,6,8] (λt v x a=>∃b,∃c:Int×VI×VI×VV×VV,∃S T V U H F z A,x=(9,vi c.1)::v/\Stp [11,12,13,14,15,16,17,18,19,24,25,26] aB b0 b a/\Oc E6 2 b a 11 S T c.2.1/\Oc E6 2 b a 12 V U c.2.2.1/\Oc (Dp E6 2) 37 b a 14 H F c.2.2.2.1/\Oc (Dp E6 2) 37 b a 15 z A c.2.2.2.2/\Bc b a 13 ay 216 [.slice S c.2.1.length T,.slice V c.2.2.1.length U,.slice H c.2.2.2.1.length F,.slice z c.2.2.2.2.length A]/\cd (gx p0 p1 p2) t c=some bK) ⟨_,_,⟨aB,((0:Int),b2.2.1,b2.2.2,([]:VV),([]:VV)),cn,cw,cr,cm,none,0,none,0,R,Jk3,(cW.mx (bZ _) aU R (R:9+2=11)),(cX.mx (bZ _) aU R (R:9+3=12)),Dt,Dt,(cY.mx aU R (R:9+4=13)),dh⟩,(KM R)⟩ ?_
 rintro t _ ek ⟨a1,c,S,T,V,U,H,F,z,A,rfl,p,bo,bp,aM,aN,aO,h⟩
 rcases t with _|t
 cases h
 obtain⟨dX,h,aS⟩:=BI h;unfold gx at h
 refine Jq<|Jh3 [2,2,2,2,1,2,2] 2 R<|Jf R (bX R R)<|Je3 R U216 R Z37<|Jc3 R I37 (aO.ld 0 R R)<|Jo3 R U37 R R<|Jb 1 R ?_
 revert h
 cases dP:decide (c.1<(c.2.1.length:Int))
 refine JF λh=>Jy R<|Jc1<|Jt<|Jt ?_
 cases h
 have h:=aS
 refine Jb1 ?_
 cases h
 exact Jw1 _ ⟨a1,(c.1,c.2.1,c.2.2.1,c.2.2.2.1,c.2.2.2.2),S,T,V,U,H,F,z,A,R,p.wk R,bo,bp,aM,aN,aO,R⟩<|KM R
 refine JT λh=>Jx R<|Js<|Jp<|Jq<|Jv<|Je [1,2] R<|Jy3 a1 E6 16 R Y37 bS R λcq cs em cf i c5=>Tv<|Jb 1 R<|Je [1,2] R<|Jy3 cf E6 17 R Y37 bS R λcv ct b1 aC g c6=>Tv<|Jb 1 R<|Jq<|Jf3 R<|Ob h λbL di dd=>?_
 clear h
 refine Jp3 [3,4,5,6,8,9] (λv x a=>∃b,∃e:VI×VI×Int×VI×VI,∃ak ap ax ai K G I E,x=(10,.slice ak e.1.length ap)::(11,.slice ax e.2.1.length ai)::v/\Stp [11,12,13,16,17,24,25,26] aC b1 b a/\Oc E6 2 b a 16 ak ap e.1/\Oc E6 2 b a 17 ax ai e.2.1/\Oc E6 2 b a 11 K G e.2.2.2.1/\Oc E6 2 b a 12 I E e.2.2.2.2/\Bc b a 13 ay 216 [.slice K e.2.2.2.1.length G,.slice I e.2.2.2.2.length E,.slice H c.2.2.2.1.length F,.slice z c.2.2.2.2.length A]/\bL=Dv e) ?_ ?_
 refine Jv<|Jq3 [3,4,5,6,8,9] (λt v x a=>∃b,∃d:VI×VI×Int×VI×VI,∃ar am aj ao an aq ad aw,x=(10,.slice ar d.1.length am)::(11,.slice aj d.2.1.length ao)::(12,vi d.2.2.1)::v/\Stp [11,12,13,16,17,24,25,26] aC b1 b a/\Oc E6 2 b a 16 ar am d.1/\Oc E6 2 b a 17 aj ao d.2.1/\Oc E6 2 b a 11 an aq d.2.2.2.1/\Oc E6 2 b a 12 ad aw d.2.2.2.2/\Bc b a 13 ay 216 [.slice an d.2.2.2.1.length aq,.slice ad d.2.2.2.2.length aw,.slice H c.2.2.2.1.length F,.slice z c.2.2.2.2.length A]/\cd (gz p0 p1 p2 c) t d=some bL) ⟨_,_,⟨aC,(([]:VI),([]:VI),(0:Int),c.2.1,c.2.2.1),cq,cs,cv,ct,S,T,V,U,R,Jk3,(c5.stp g),c6,(bo.stp<|i.tr g),(bp.stp<|i.tr g),(aO.stp<|i.tr g),di⟩,(KM R)⟩ ?_
 rintro t _ eo ⟨ci,d,ar,am,aj,ao,an,aq,ad,aw,rfl,s,bq,br,aQ,aR,bs,h⟩
 rcases t with _|t
 cases h
 obtain⟨dY,h,bA⟩:=BI h;unfold gz at h
 refine Jq<|Jh3 [2,1,1,2] 1 R ?_
 have bt:=cZ.stp (T9 D y u n o p i g s)
 refine Jc4 tv R (Jd4 (haE bt.cells) I28 Z28 R)<|Ob h λdt dm h=>Js3 R call60 (ot (J:=Mk ci) (p0:=p0) dm) ?_
 rintro _ eq ⟨dU,rfl,cD⟩
 obtain⟨aE,f,dW⟩:=Ji cD 18 R
 refine Tv<|Jb 1 R ?_
 revert h
 cases dQ:decide (d.2.2.1<dt)
 refine JF λh=>Jy R<|Jc1<|Jt<|Jt ?_
 cases h
 have h:=bA
 refine Jb1 ?_
 cases h
 exact Jw1 _ ⟨aE,(d.1,d.2.1,d.2.2.1,d.2.2.2.1,d.2.2.2.2),ar,am,aj,ao,an,aq,ad,aw,R,(s.tr f).wk R,(bq.stp f),(br.stp f),(aQ.stp f),(aR.stp f),(bs.stp f),R⟩<|KM R
 refine JT λh=>Jx R<|Js<|Jp<|Jq<|Jv<|Jq<|Js1 (J:=aE) [0,2,3,11,13] none [(0,2),(2,2),(3,2),(4,2),(6,2),(11,2),(17,2),(1,0),(5,0),(7,2),(8,0),(9,2),(10,0),(12,2),(13,0),(14,0),(15,1),(16,2),(18,2),(19,2)] [] (by kernel_rfl) (by kernel_rfl) λer j=>Je3 R U33 R Z31<|Jn 1 R<|Jf R (bX R R)<|Je3 R U216 R Z37<|Jn 3 R ?_
 have bf:=dc.stp (T10 y u n o p i g s f j)
 refine Jg R (Jd2 I31 R R<|hvC (bf.ld 1 R R) R) ?_
 have bg:=bs.stp (f.tr j)
 refine Jg R (Jd2 I37 R R<|hvC (bg.ld 0 R R) R)<|Ob h λes bB h=>Jd3 R aQ.rdc bB U37 Z2 ?_
 have aK:=aQ.stp (f.tr j)
 refine Jg R (Jd2 I2 R R<|hvC (aK.rdc.gInt bB) R)<|Ob h λet bC h=>Jd3 R bv bC U31 Z37 ?_
 obtain⟨dy,dZ,bh,de⟩:=(bv.stp (T12 P D y u n o p i g s f j)).gSl bC
 refine Jg R (Jd2 I37 R R<|hvC de R)<|Ob h λdu bD h=>Jd3 R bh bD U37 Z2<|Jg R (Jd2 I2 R R<|hvC (bh.gInt bD) R)<|Jg R (Jd4 (haC (bt.stp<|f.tr j).cells R) I28 Z28 R)<|Ob h λdv dn h=>Js3 R call60 (ot (J:=Mk aE) (p0:=p0) dn) ?_
 rintro _ d3 ⟨dR,rfl,cA⟩
 obtain⟨aX,k,dV⟩:=Ji cA 20 R
 refine⟨(k.cl R),Jn 3 R<|Jt1<|Jd<|Jq<|Js1 (J:=aX) [0,3,4,11,12,13] (some 30) [(0,2),(1,2),(2,2),(4,2),(5,2),(6,2),(8,2),(13,2),(16,2),(18,2),(19,2),(20,2),(22,2),(27,2),(3,0),(7,0),(9,2),(10,0),(11,2),(12,0),(14,2),(15,0),(17,0),(21,0),(23,2),(24,0),(25,2),(26,0),(28,2),(29,0)] [(30,1),(31,1),(32,1),(33,2)] (by kernel_rfl) (by kernel_rfl) λd4 m=>Jn 2 R<|Je3 R U33 R Z31<|Jn 1 R<|Jf R (bX R R)<|Je3 R U216 R Z37<|Jn 2 R<|Je3 R U71 R Z31<|Jn 1 R<|Jf R (bX R R)<|Je3 R U216 R Z37<|Jn 2 R<|Jg R (Jd2 I31 R R<|hvC ((bf.stp<|k.tr m).ld 0 R R) R) ?_⟩
 have aL:=bg.stp (k.tr m)
 refine Jg R (Jd2 I37 R R<|hvC (aL.ld 0 R R) R)<|Ob h λeu bE h=>Jd3 R aK.rdc bE U37 Z2 ?_
 have bi:=aK.stp (k.tr m)
 refine Jg R (Jd2 I2 R R<|hvC (bi.rdc.gInt bE) R)<|Ob h λev bF h=>Jd3 R bu bF U31 Z37 ?_
 obtain⟨dz,d0,bj,df⟩:=(bu.stp (T14 P D y u n o p i g s f j k m)).gSl bF
 refine Jg R (Jd2 I37 R R<|hvC df R)<|Ob h λew bG h=>Jd3 R bj bG U37 Z2<|Jg R (Jd2 I2 R R<|hvC (bj.gInt bG) R)<|Jg R (Jd2 I31 R R<|hvC ((cE.stp<|T11 u n o p i g s f j k m).ld 0 R R) R)<|Jg R (Jd2 I37 R R<|hvC (aL.ld 1 R R) R)<|Ob h λex bH h=>Jd3 R aR.rdc bH U37 Z2 ?_
 have bk:=aR.stp (T4 f j k m)
 refine Jg R (Jd2 I2 R R<|hvC (bk.rdc.gInt bH) R)<|Ob h λey bI h=>Jd3 R bw bI U31 Z37 ?_
 obtain⟨dA,d1,bl,dg⟩:=(bw.stp (T14 P D y u n o p i g s f j k m)).gSl bI
 have a2:=(T7 i g s f j k m)
 refine Jg R (Jd2 I37 R R<|hvC dg R)<|Ob h λez bJ h=>Jd3 R bl bJ U37 Z2<|Jg R (Jd2 I2 R R<|hvC (bl.gInt bJ) R)<|Jt1<|Ob h λaW dp h=>Js3 R call254 (qg (J:=λB=>mp [(11,2),(12,3),(13,4)] 0<|aX B) (p0:=(⟨d.2.2.2.1,d.2.2.2.2,c.2.2.2.1,c.2.2.2.2⟩:l30Graph)) (bi.map (mp [(11,2),(12,3),(13,4)] 0) R R) (bk.map (mp [(11,2),(12,3),(13,4)] 0) R R) (Jm2 (aM.stp a2).rdc (mp [(11,2),(12,3),(13,4)] 0) R R) (Jm2 (aN.stp a2).rdc (mp [(11,2),(12,3),(13,4)] 0) R R) (aL.map (mp [(11,2),(12,3),(13,4)] 0) R R) dp) ?_
 rintro _ d5 ⟨dS,cz,ck,cl,co,rfl,cB,cF,cG,cH⟩
 obtain⟨b4,a5,aT⟩:=Ji cB 22 R
 have a3:=(T5 f j k m a5)
 refine Tv<|Je4 b4 27 [aW.1] R Y37 bS R λdL dJ d7 b6 W cI=>Tv<|Ob h λdw dq h=>Jz3 b6 E6 16 [] R Y37 bS R (bq.stp<|a3.tr W) (Du (cc _) cI.rdc) bV dq R λcx cy d8 b7 aG cJ=>Tv<|Jb 1 R<|Ji3 [2,2,1,1,2] 2 R<|Je4 b7 28 [(Dr .i64 ((Dr .i64<|du * dv)+d.2.2.1))] R Y37 bS R λdH dM d9 b8 X cK=>Tv<|Ob h λdx dr h=>Jz3 b8 E6 17 [] R Y37 bS R (br.stp<|T4 a3 W aG X) (Du (cc _) cK.rdc) bV dr R λcp cu ea b9 aH cL=>Tv<|Jc 1 R<|Jz<|Jp<|Jg3 R ?_
 cases h
 have aF:=(T4 W aG X aH)
 exact Ja2 ⟨(λB=>ren [(24,11),(25,12),(26,13)]<|b9 B),(dw,dx,((Dr .i64<|d.2.2.1+1):Int),aW.2.1,aW.2.2),cx,cy,cp,cu,cz,ck,cl,co,R,(Jz2 ((T10 s f j k m a5 W aG X aH).wk R) [(24,11),(25,12),(26,13)] R),((cJ.stp<|X.tr aH).map (ren [(24,11),(25,12),(26,13)]) R R),(cL.map (ren [(24,11),(25,12),(26,13)]) R R),(((cF.mx (bZ _) aT R (R:22+2=24)).stp aF).map (ren [(24,11),(25,12),(26,13)]) R R),(((cG.mx (bZ _) aT R (R:22+3=25)).stp aF).map (ren [(24,11),(25,12),(26,13)]) R R),(((cH.mx aT R (R:22+4=26)).stp aF).map (ren [(24,11),(25,12),(26,13)]) R R),bA⟩ R
 rintro _ en ⟨aD,e,ak,ap,ax,ai,K,G,I,E,rfl,Q,c7,c8,da,db,aP,rfl⟩
 have h:=yI dd
 refine Jp<|Jq<|Jh3 [2,2,2,1,2,2] 1 R<|Jf R (bX R R)<|Je3 R U216 R Z37<|Jc3 R I37 (aP.ld 0 R R)<|Jo3 R U37 R R<|Jb 1 R ?_
 revert h
 cases dO:decide (256<(e.2.2.2.1.length:Int))
 refine JF λh=>Jy R<|Js<|Jp<|Jh3 [2,2,2,2,1,2,1,1,2,2,1] 2 R<|Jf R (bX R R)<|Je3 R U216 R Z31<|Jc3 R I31 (aP.ld 2 R R)<|Jn 1 R<|Jx3 aD (Dp E6 2) 18 [16] (parts:=[(0,.tmp 103)]) (cells:=[.slice ak e.1.length ap]) (xs:=([e.1]:VV)) R Y31 bW R (Jf4 ⟨_,_,R,c7⟩) λdK dI ec ca C cN=>Tv<|Ob h λaz dj h=>Jz3 ca (Dp E6 2) 14 [18] R Y31 bW R (aM.stp<|T4 i g Q C) cN.src (c9 R) dj R λah au ed aY L cO=>Tv<|Jf R (bX R R)<|Je3 R U216 R Z31<|Jv3 aY 13 (off:=2) (vc:=[.slice ah az.length au]) (cs':=[.slice K e.2.2.2.1.length G,.slice I e.2.2.2.2.length E,.slice ah az.length au,.slice z c.2.2.2.2.length A]) R Z31 R (aP.stp<|C.tr L) R λee M bn=>Tv<|Jd<|Ji3 [2,2,2,2,1,2,1,1,2,2,1] 2 R<|Jf R (bX R R)<|Je3 R U216 R Z31<|Jc3 R I31 (bn.ld 3 R R)<|Jn 1 R<|Jx3 aY (Dp E6 2) 19 [17] (parts:=[(0,.tmp 113)]) (cells:=[.slice ax e.2.1.length ai]) (xs:=([e.2.1]:VV)) R Y31 bW R (Jf4 ⟨_,_,R,(c8.stp<|T3 C L M)⟩) λdF dG ef cb N cP=>Tv<|Ob h λaV dk h=>Jz3 cb (Dp E6 2) 15 [19] R Y31 bW R (aN.stp<|T7 i g Q C L M N) cP.src (c9 R) dk R λaJ aI eg aZ Y cQ=>Tv<|Jf R (bX R R)<|Je3 R U216 R Z31<|Jv3 aZ 13 (off:=3) (vc:=[.slice aJ aV.length aI]) (cs':=[.slice K e.2.2.2.1.length G,.slice I e.2.2.2.2.length E,.slice ah az.length au,.slice aJ aV.length aI]) R Z31 R (bn.stp<|N.tr Y) R λeh Z cS=>Tv<|Jo<|Jz<|Jp<|Jg3 R ?_
 cases h
 have a4:=(T6 C L M N Y Z)
 exact Ja2 ⟨aZ,(((Dr .i64<|c.1+1):Int),e.2.2.2.1,e.2.2.2.2,az,aV),K,G,I,E,ah,au,aJ,aI,R,(T10 p i g Q C L M N Y Z).wk R,(da.stp a4),(db.stp a4),(cO.stp<|T4 M N Y Z),(cQ.stp Z),cS,aS⟩ R
 refine JT λh=>Jx R<|Je [2,1,2] R<|Jf R (Jj4 [.slice none 0 0,.slice none 0 0,.slice none 0 0,.slice none 0 0] R)<|Ji4 aD 5 R Z216 R (bm.stp<|T6 n o p i g Q) R λeb cj cM=>Tv<|Jb 1 R<|Ju<|Jw<|Ja1<|Jw<|Jw ?_
 cases h
 obtain rfl:=Ds aS
 have h:=yL bz
 refine Ja1<|Jr2<|Jw<|Jb2 (l:=[.cell 6 216,.tmp 7]) results205 (cg R cM isAgg216 Z216 R<|Jq2 R R) R ?_
 cases h
 exact⟨aD,none,0,none,0,none,0,none,0,R,(bx.stp<|T11 P D y u n o p i g Q cj),Dt,Dt,Dt,Dt⟩
 rintro _ ej ⟨a0,q,av,af,ab,ac,al,ae,ag,aa,rfl,a6,c0,c1,c2,c3,c4,rfl⟩
 have h:=yI bz
 refine Jp<|Jh3 [2,2,1,1,2] 1 R<|Jf R (bX R R)<|Jc4 tv R (Jd4 (haE c4.cells) isAgg216 Z216 R)<|Ji4 a0 5 R Z216 R (bm.stp<|T3 n o a6) R λei O cT=>Tv<|Jb 1 R<|Ju<|Jb2 (l:=[.cell 6 216,.tmp 7]) results205 (cg R cT isAgg216 Z216 R<|Jq2 R R) R ?_
 cases h
 exact⟨(λB=>ren [(11,2),(12,3),(14,4),(15,5)]<|a0 B),av,af,ab,ac,al,ae,ag,aa,R,((bx.stp<|T8 P D y u n o a6 O).map (ren [(11,2),(12,3),(14,4),(15,5)]) R R),((c0.stp O).map (ren [(11,2),(12,3),(14,4),(15,5)]) R R),((c1.stp O).map (ren [(11,2),(12,3),(14,4),(15,5)]) R R),((c2.stp O).map (ren [(11,2),(12,3),(14,4),(15,5)]) R R),((c3.stp O).map (ren [(11,2),(12,3),(14,4),(15,5)]) R R)⟩
theorem pi {F G D E C B}{p0:watch}{A N}{p1:VI}{H}(ak:Rd Rs J w 0 F G p0.next) (al:Rd Rs J w 0 D E p0.letters) (am:Rd Pair.rp J w 0 C B p0.pairs) (Z:Rd Ri J w 0 A N p1) (aa:Bc J w 0 H 172 [.slice F p0.next.length G,.slice D p0.letters.length E,.slice C p0.pairs.length B]){r:VB}(h:ga p0 p1=some r):Ret prog 210 [.pointer (some ⟨H,0,none⟩),.slice A p1.length N] w (Pvs Do 4 J w r):=by
 unfold ga at h
 refine Jl3 J func210 R ntmps210 R λab=>Jf3 R<|Jh3 [2,2,2,1,2,1,2] 1 R<|Jf R (bX R R)<|Je3 R U172 R Z31<|Jc3 R I31 (aa.ld 0 R R)<|Jo3 R U31 R R<|Ob h λf ag h=>Jl1 (J:=J) (E:=Do) (z:=(false:Bool)) 2 R R R R R R R Y178 da R R R R R (λ_ _ _=>R) (Jv2 ag) λq p O m y I=>Tv<|Jb 1 R<|Jq<|Jh3 [2,2,2] 1 R<|Jo3 R U178 R R<|Jb 1 R<|Ob h λM af ac=>?_
 clear h
 refine Jp3 [0,5] (λb n e=>∃g,∃k:VB,n=b/\Stp [2] m O g e/\Oc Do 4 g e 2 q p k/\f.length=k.length/\M=Dv k) ?_ ?_
 refine Jv<|Jq3 [0,1,5,14] (λc b n e=>∃g a,∃d:VB,n=(15,vi a)::b/\Stp [2] m O g e/\Oc Do 4 g e 2 q p d/\f.length=d.length/\0<=a/\Dq ((f.length:Int)-a)=c/\cntM (ek p1) c a d=some M) ⟨_,_,⟨m,0,f,R,Jk3,I,R,(by decide),(by simp),af⟩,(KM R)⟩ ?_
 rintro c _ ap ⟨v,a,d,rfl,o,s,u,K,i,h⟩
 rcases c with _|c
 have j:=h;obtain⟨aj,h⟩:=exq j
 have t:=dcf i
 refine Jf3 R<|Jq<|Jx2 R t<|Jc1<|Jt<|Jt ?_
 cases h
 have h:=j
 refine Jb1 ?_
 cases h
 exact Jw1 _ ⟨v,d,R,o.wk R,s,u,R⟩<|KM R
 obtain⟨aj,h,j⟩:=BI h;unfold ek at h
 have t:=dct i
 refine Jf3 R<|Jq<|Jw2 R t<|Js<|Jp<|Jq<|Jv<|Jf3 R<|Ji3 [2,2,2,2,1,2,2,1] 4 R<|Ob h λav ah h=>Js3 R C89 (cj (J:=Mk v) (Jj3<|Z.stp<|y.tr o) ah) ?_
 rintro _ aq ⟨an,rfl,W⟩
 obtain⟨Q,x,ao⟩:=Ji W 3 R
 refine Tv<|Jn 1 R<|Ob h λaw ai h=>Jf R (Jg2 s.rdc ai U178 Z4 R R u R)<|Ob h λP L h=>Jk1 (J:=Q) (E:=Do) 2 [] R R R R R R R R Z4 R R R R (s.stp x) L λar S V Y=>Tv<|?_
 have ae:f.length=P.length:=u.trans (Ju2 L).2.2.2.symm
 refine Jo<|Jz<|Jp<|Jg3 R<|wr2 K i I.len_le ▸ ?_
 cases h
 exact Ja2 ⟨S,a+1,P,R,(T3 o x V).wk R,Y,ae,nxz K,nxm i,j⟩ R
 rintro _ au ⟨T,k,rfl,U,X,ad,rfl⟩
 have h:=yI ac
 refine Jp<|Jf3 R<|Ju<|Jb2 (l:=[.tmp 4]) results210 (Jq2 R R) R ?_
 cases h
 exact⟨T,q,p,(by simp only[ad]),(ab.stp<|y.tr U),X⟩
theorem um {bp ce}{p0:VV}{bq cf}{p1:VB}(L:Rd Rs J w 0 bp ce p0) (af:Rd Rp.bool J w 0 bq cf p1){r:VV}(h:mN p0 p1=some r):Ret prog 164 [.slice bp p0.length ce,.slice bq p1.length cf] w (λev a=>∃(b:Col) (ca:Option Addr) (cb:Nat),ev= .slice ca r.length cb/\Ent J w b a/\Oc (Ep.fz Rs) 37 b a 2 ca cb r):=by
 unfold mN at h
 refine Jl3 J func164 R ntmps164 R λdN=>Je [1,2] R<|Jt3 J 2 R λc0 fi cs K aZ=>Tv<|Jb 1 R<|Jh3 [2,2,1,2] 1 R<|Jo3 R U31 R R<|Ob h λM ej h=>Jl1 (J:=cs) (E:=(Dp E6 2)) (z:=([]:VI)) 3 R R R R R R R Y31 bW R R R R R (λ_ _ _=>⟨none,0,R,Dt⟩) (Jv2 ej) λZ ab cl aO u dI=>Tv<|Jb 1 R<|Jq<|Jh3 [2,2,2] 1 R<|Jo3 R U31 R R<|Jb 1 R<|Ob h λb7 ea dO=>?_
 clear h
 refine Jp3 [0,3,5] (λc e a=>∃b,∃aj:VV,e=c/\Stp [3,5] aO cl b a/\Oc (Dp E6 2) 37 b a 3 Z ab aj/\M.length=aj.length/\b7=Dv aj) ?_ ?_
 refine Jv<|Jq3 [0,3,5,21,22] (λd c e a=>∃b G,∃T:VV,e=(23,vi G)::c/\Stp [3,5] aO cl b a/\Oc (Dp E6 2) 37 b a 3 Z ab T/\M.length=T.length/\0<=G/\Dq ((p0.length:Int)-G)=d/\cntM (fO p0 p1) d G T=some b7) ⟨_,_,⟨aO,0,M,R,Jk3,dI,R,(by decide),(by simp),ea⟩,(KM R)⟩ ?_
 rintro d _ ch ⟨ao,G,T,rfl,X,bC,bO,bM,aE,h⟩
 rcases d with _|d
 have aG:=h;obtain⟨eu,h⟩:=exq aG
 have a4:=dcf aE
 refine Jf3 R<|Jq<|Jx2 R a4<|Jc1<|Jt<|Jt ?_
 cases h
 have h:=aG
 refine Jb1 ?_
 cases h
 exact Jw1 _ ⟨ao,T,R,X.wk R,bC,bO,R⟩<|KM R
 obtain⟨eu,h,aG⟩:=BI h;unfold fO at h
 have a4:=dct aE
 refine Jf3 R<|Jq<|Jw2 R a4<|Js<|Jp<|Jq<|Jv<|Jh3 [2,2,1,2,2] 1 R<|Ob h λcm bR h=>Jd3 R L bR U31 Z37 ?_
 obtain⟨eS,fg,aY,dZ⟩:=(L.stp (T3 K u X)).gSl bR
 refine Jc3 R I37 dZ<|Jb 2 R<|Jh3 [2,2,2] 1 R<|Jo3 R U37 R R<|Jb 1 R<|Ob h λb8 ed dV=>?_
 clear h
 refine Jp3 [0,3,5,21,22,23] (λc e a=>∃b,∃al:VV,e=c/\Stp [3,5] ao ch b a/\Oc (Dp E6 2) 37 b a 3 Z ab al/\M.length=al.length/\b8=Dv al) ?_ ?_
 refine Jv<|Jq3 [0,3,5,6,21,22,23,28,29] (λd c e a=>∃b V,∃ak:VV,e=(30,vi V)::c/\Stp [3,5] ao ch b a/\Oc (Dp E6 2) 37 b a 3 Z ab ak/\M.length=ak.length/\0<=V/\Dq ((cm.length:Int)-V)=d/\cntM (js p1 G cm) d V ak=some b8) ⟨_,_,⟨ao,0,T,R,Jk3,bC,bO,(by decide),(by simp),ed⟩,(KM R)⟩ ?_
 rintro d _ ez ⟨bg,V,ak,rfl,Y,aB,ai,bL,aD,h⟩
 rcases d with _|d
 have aH:=h;obtain⟨et,h⟩:=exq aH
 have a3:=dcf aD
 refine Jf3 R<|Jq<|Jx2 R a3<|Jc1<|Jt<|Jt ?_
 cases h
 have h:=aH
 refine Jb1 ?_
 cases h
 exact Jw1 _ ⟨bg,ak,R,Y.wk R,aB,ai,R⟩<|KM R
 obtain⟨et,h,aH⟩:=BI h;unfold js at h
 have a3:=dct aD
 refine Jf3 R<|Jq<|Jw2 R a3<|Js<|Jp<|Jq<|Jv<|Je [2,1,2] R<|Ob h λfR bT h=>Jd3 R aY bT U37 Z2<|Jc3 R I2 ((aY.stp Y).gInt bT)<|Jb 1 R<|Je [1,2,2,1,2,1,2,2,1,2] R ?_
 have bH:=aZ.stp (T3 u X Y)
 refine Jc3 R I178 (bH.ld 0 R R)<|Jn 1 R<|Ob h λeD bU h=>Jd3 R af bU U178 Z4 ?_
 have a0:=af.stp (T4 K u X Y)
 refine Jc3 R I4 (a0.gBool bU)<|Jn 1 R<|Ob h λb4 h dW=>Jg4 [0,3,5,6,9,21,22,23,28,29,30] 43 b4 bg ez [(5,1),(6,2),(7,2),(8,1),(9,2)] [] tv ?_ ?_
 revert h
 cases e6:eD
 refine JF λh=>Ja4 R<|Jn 2 R<|Ja4 R<|Jn 1 R ?_
 cases h
 exact Jh4 tv R
 refine JT λh=>Jc3 R I178 (bH.ld 0 R R)<|Jn 1 R<|Ob h λfS bX h=>Jd3 R a0 bX U178 Z4<|Jc3 R I4 (a0.gBool bX)<|Jn 1 R ?_
 cases h
 exact Jh4 tv R
 rintro _ eA _ ⟨rfl,aN,aP⟩
 have h:=dW
 refine Jd<|Ob h λba h dX=>Jp3 [0,3,5,6,21,22,23,28,29,30] (λc e a=>∃b,e=c/\Stp [3,5] aN eA b a/\Oc (Dp E6 2) 37 b a 3 Z ab ba/\M.length=ba.length) ?_ ?_
 revert h
 cases e7:b4
 refine JF λh=>Jy R<|Js ?_
 cases h
 exact Jw1 _ ⟨aN,R,Jk3,(aB.stp aP),ai⟩<|KM R
 refine JT λh=>Jx R<|Ji3 [2,2,2,2,2,1,2,1,1,2,1] 4 R<|Ob h λfT a6 h=>Jf R (Jg2 aB.rdc a6 U31 Z37 R R ai R) ?_
 have bI:=aB.stp aP
 obtain⟨eT,fh,eX,bN⟩:=bI.rdc.gSl a6
 refine Jc3 R I37 bN<|Jn 1 R<|Je4 aN 4 [G] R Y37 bS R λeM eL fD eK aQ dC=>Tv<|?_
 have bJ:=bI.stp aQ
 obtain⟨cC,bn,dD,dE⟩:=bJ.borrow a6 (bN _ (Stp.ag aQ R)) 5 R R
 refine Ob h λfU ek h=>Jz3 cC E6 5 [] R Y37 bS R dD (Du (cc _) (dC.stp bn).rdc) bV ek R λeN eQ fE cD bo dG=>Tv<|Ob h λfV el h=>Jf R (Jg2 bJ.rdc el U31 Z37 R R ai R)<|Ob h λeF b2 h=>WO.stH (J:=cD) (E:=(Dp E6 2)) 3 [5] R R R R R R R R Z37 R ⟨_,_,R,dG⟩ R R (dE.stp bo) b2 λfF cE cP dH=>Tv<|?_
 have d9:M.length=eF.length:=ai.trans (Ju2 b2).2.2.2.symm
 refine Jo ?_
 cases h
 exact Jw1 _ ⟨cE,R,(T4 aQ bn bo cP).wk R,dH,d9⟩<|KM R
 rintro _ fC ⟨cB,rfl,cO,dB,d8⟩
 have h:=dX
 refine Jz<|Jp<|Jg3 R<|wr2 bL aD aY.len_le ▸ ?_
 cases h
 exact Ja2 ⟨cB,V+1,ba,R,(T3 Y aP cO).wk R,dB,d8,nxz bL,nxm aD,aH⟩ R
 rintro _ fB ⟨cA,al,rfl,cN,dz,d7,rfl⟩
 have h:=yI dV
 refine Jz<|Jp<|Jg3 R<|wr2 bM aE L.len_le ▸ ?_
 cases h
 exact Ja2 ⟨cA,G+1,al,R,(X.tr cN).wk R,dz,d7,nxz bM,nxm aE,aG⟩ R
 rintro _ fl ⟨co,aj,rfl,I,de,d3,rfl⟩
 have h:=yI dO
 refine Jp<|Jh3 [2,2,1,1,1] 1 R<|Jo3 R U31 R R<|Ob h λam em h=>Jl1 (J:=co) (E:=Do) (z:=(false:Bool)) 4 R R R R R R R Y178 da R R R R R (λ_ _ _=>R) (Jv2 em) λav az fG cF D dJ=>Tv<|Ju3 cF 5 R zeroValue178 R λcY fH bh A dK=>Tv<|Jw3 bh 5 (vc:=[.slice av am.length az]) R sizeOf178 R dK R λfI B a1=>Tv<|Jd<|Je [1,1,1] R<|Jy3 bh E6 6 R Y37 bS R λbs bu fJ cG o dL=>Tv<|Ju3 cG 7 R zeroValue37 R λaV fK bi j dM=>Tv<|Jw3 bi 7 (vc:=[.slice bs ([]:VI).length bu]) R Z37 R dM R λfL k c6=>Tv<|Jd<|Je [1] R<|Ju3 bi 8 R zeroValue226 R λcZ fj an g c7=>Tv<|Jd<|Je [2,1] R<|Jf R (eH (first:=[]) (captured:=[.tmp 10,.tmp 3,.tmp 12]) R R R ⟨_,R⟩)<|Jw3 an 8 (vc:=[.func (.func 218) #[] #[.pointer (some ⟨cY,0,none⟩),.pointer (some ⟨c0,0,none⟩),.pointer (some ⟨cZ,0,none⟩)]]) R sizeOf226 R c7 R λcg i bv=>Tv<|Jd<|Jq<|Jh3 [2,2,2] 1 R<|Jo3 R U31 R R<|Jb 1 R<|Ob h λb9 eb dP=>?_
 clear h
 refine Jp3 [0,5,10,11,12] (λc e a=>∃b,∃E:VI×VB,∃aT aR,e=c/\Stp [4,6,7,11,12,13] an cg b a/\Oc E6 2 b a 6 aT aR E.1/\Oc Do 4 b a 4 av az E.2/\am.length=E.2.length/\Bc b a 7 aV 37 [.slice aT E.1.length aR]/\b9=Dv E) ?_ ?_
 refine Jv<|Jq3 [0,3,5,10,11,12,62] (λd c e a=>∃b W,∃F:VI×VB,∃ac aa,e=(63,vi W)::c/\Stp [4,6,7,11,12,13] an cg b a/\Oc E6 2 b a 6 ac aa F.1/\Oc Do 4 b a 4 av az F.2/\am.length=F.2.length/\Bc b a 7 aV 37 [.slice ac F.1.length aa]/\0<=W/\Dq ((p0.length:Int)-W)=d/\cntM (iu p0 p1) d W F=some b9) ⟨_,_,⟨an,0,(([]:VI),am),bs,bu,R,Jk3,(dL.stp<|T4 j k g i),(dJ.stp<|T7 A B o j k g i),R,(c6.stp<|g.tr i),(by decide),(by simp),eb⟩,(KM R)⟩ ?_
 rintro d _ ew ⟨bc,W,F,ac,aa,rfl,C,aW,ad,ag,aX,bK,aC,h⟩
 rcases d with _|d
 have aF:=h;obtain⟨es,h⟩:=exq aF
 have a2:=dcf aC
 refine Jf3 R<|Jq<|Jx2 R a2<|Jc1<|Jt<|Jt ?_
 cases h
 have h:=aF
 refine Jb1 ?_
 cases h
 exact Jw1 _ ⟨bc,(F.1,F.2),ac,aa,R,C.wk R,aW,ad,ag,aX,R⟩<|KM R
 obtain⟨es,h,aF⟩:=BI h;unfold iu at h
 have a2:=dct aC
 refine Jf3 R<|Jq<|Jw2 R a2<|Js<|Jp<|Jq<|Jv<|Jf3 R<|Je [1,2,2,1,2,1,2,2,1,2,2] R ?_
 have bx:=aZ.stp (T11 u I D A B o j k g i C)
 refine Jc3 R I178 (bx.ld 0 R R)<|Jn 1 R<|Ob h λeE bY h=>Jd3 R af bY U178 Z4 ?_
 have bz:=af.stp (T12 K u I D A B o j k g i C)
 refine Jc3 R I4 (bz.gBool bY)<|Jn 1 R<|Ob h λb5 h dQ=>Jg4 [0,3,5,10,11,12,13,62,63] 76 b5 bc ew [(5,1),(6,2),(7,2),(8,1),(9,2),(10,2)] [] tv ?_ ?_
 revert h
 cases e0:eE
 refine JF λh=>Ja4 R<|Jn 2 R<|Ja4 R<|Jn 2 R ?_
 cases h
 exact Jh4 tv R
 refine JT λh=>Jc3 R I178 ((a1.stp<|T6 o j k g i C).ld 0 R R)<|Jn 1 R<|Ob h λfW b0 h=>Jf R (Jg2 ad.rdc b0 U178 Z4 R R ag R)<|Jc3 R I4 (ad.rdc.gBool b0)<|Jn 2 R ?_
 cases h
 exact Jh4 tv R
 rintro _ ex _ ⟨rfl,aJ,n⟩
 have h:=dQ
 refine Jd<|Ob h λS h dR=>Jp3 [0,3,5,10,11,12,62,63] (λc e a=>∃b au aq,e=c/\Stp [4,6,7,11,12,13] aJ ex b a/\Oc E6 2 b a 6 au aq S.1/\Oc Do 4 b a 4 av az S.2/\am.length=S.2.length/\Bc b a 7 aV 37 [.slice au S.1.length aq]) ?_ ?_
 revert h
 cases e1:b5
 refine JF λh=>Jy R<|Js ?_
 cases h
 exact Jw1 _ ⟨aJ,ac,aa,R,Jk3,(aW.stp n),(ad.stp n),ag,(aX.stp n)⟩<|KM R
 refine JT λh=>Jx R<|Ja [1,2,2,2,1] R ?_
 have bA:=bv.stp (C.tr n)
 refine Jc3 R isAgg226 (bA.ld 0 R R)<|Jn 2 R<|Jf R (eH (first:=[]) (captured:=[.tmp 11]) R R R ⟨_,R⟩)<|Ob h λfX en h=>WO.callV R R R R R R R R call218 (gB _ (J:=λm=>mp [(6,2),(4,3),(7,4)] 0<|aJ m) (Jm2 (L.stp<|T13 K u I D A B o j k g i C n) (mp [(6,2),(4,3),(7,4)] 0) R R) ((aW.stp n).map (mp [(6,2),(4,3),(7,4)] 0) R R) ((ad.stp n).map (mp [(6,2),(4,3),(7,4)] 0) R R) (Jm2 (bz.stp n) (mp [(6,2),(4,3),(7,4)] 0) R R) ((aX.stp n).map (mp [(6,2),(4,3),(7,4)] 0) R R) (Bc.cast ((a1.stp<|T7 o j k g i C n).map (mp [(6,2),(4,3),(7,4)] 0) R R) (by simp only[ag])) ((bx.stp n).map (mp [(6,2),(4,3),(7,4)] 0) R R) (bA.map (mp [(6,2),(4,3),(7,4)] 0) R R) en) ?_
 rintro _ fn ⟨e8,cR,cQ,rfl,c1,df,dg,d2,dh⟩
 obtain⟨cq,cI,a7⟩:=Ji c1 9 R
 refine Tv<|Jo ?_
 cases h
 exact Jw1 _ ⟨(λm=>ren [(11,6),(12,4),(13,7)]<|cq m),cR,cQ,R,(Jz2 (cI.wk R) [(11,6),(12,4),(13,7)] R),((df.mx (bZ _) a7 R (R:9+2=11)).map (ren [(11,6),(12,4),(13,7)]) R R),((dg.mx dA a7 R (R:9+3=12)).map (ren [(11,6),(12,4),(13,7)]) R R),(ag.trans d2),((dh.mx a7 R (R:9+4=13)).map (ren [(11,6),(12,4),(13,7)]) R R)⟩<|KM R
 rintro _ fm ⟨cp,au,aq,rfl,cH,db,dc,d1,dd⟩
 have h:=dR
 refine Jz<|Jp<|Jg3 R<|wr2 bK aC L.len_le ▸ ?_
 cases h
 exact Ja2 ⟨cp,W+1,(S.1,S.2),au,aq,R,(T3 C n cH).wk R,db,dc,d1,dd,nxz bK,nxm aC,aF⟩ R
 rintro _ fk ⟨cn,E,aT,aR,rfl,H,bw,eV,eY,c8,rfl⟩
 have h:=yI dP
 refine Jp<|Jh3 [2,2,1,1] 1 R<|Jo3 R U31 R R<|Ob h λaI eo h=>Jl1 (J:=cn) (E:=Do) (z:=(false:Bool)) 9 R R R R R R R Y178 da R R R R R (λ_ _ _=>R) (Jv2 eo) λaU aS fo bd v di=>Tv<|Jw3 bd 5 (vc:=[.slice aU aI.length aS]) R sizeOf178 R (a1.stp<|T7 o j k g i H v) R λfp x dj=>Tv<|Jd<|Je [1,2] R<|Jy3 bd (Ep.fz<|Rs) 10 R Y31 bW R λcU cV ci aK q dk=>Tv<|Jb 1 R<|Jq<|Je [1,2,2,2] R ?_
 have bB:=c8.stp (T3 v x q)
 refine Jc3 R I37 (bB.ld 0 R R)<|Jo3 R U37 R R<|Jb 2 R<|Ob h λb6 ec dS=>?_
 clear h
 refine Jx1 (λe a=>∃b,∃U:VV×Int×VB,∃ay ar,e=[(14,.slice ay U.1.length ar)]/\Stp [9,10,11,12,15,16,20,21] aK ci b a/\Oc (Ep.fz<|Rs) 37 b a 10 ay ar U.1/\Oc Do 4 b a 9 aU aS U.2.2/\aI.length=U.2.2.length/\b6=Dv U) ?_ ?_
 refine Jv<|Jq3 [0,5,10,11,12] (λd c e a=>∃b,∃f:VV×Int×VB,∃P Q,e=(14,.slice P f.1.length Q)::(15,vi f.2.1)::c/\Stp [9,10,11,12,15,16,20,21] aK ci b a/\Oc (Ep.fz<|Rs) 37 b a 10 P Q f.1/\Oc Do 4 b a 9 aU aS f.2.2/\aI.length=f.2.2.length/\cd (dF p0 p1 aj E) d f=some b6) ⟨_,_,⟨aK,(([]:VV),((Dr .i64 ((E.1.length:Int)-1)):Int),aI),cU,cV,R,Jk3,dk,(di.stp<|x.tr q),R,ec⟩,(KM R)⟩ ?_
 rintro d _ fr ⟨aL,f,P,Q,rfl,p,aA,ae,ah,h⟩
 rcases d with _|d
 cases h
 obtain⟨fe,h,a5⟩:=BI h;unfold dF at h
 refine Jq<|Jf3 R ?_
 revert h
 cases e2:decide (0<=f.2.1)
 refine JF λh=>Jy R<|Jc1<|Jt<|Jt ?_
 cases h
 have h:=a5
 refine Jb1 ?_
 cases h
 exact Jw1 _ ⟨aL,(f.1,f.2.1,f.2.2),P,Q,R,p.wk R,aA,ae,ah,R⟩<|KM R
 refine JT λh=>Jx R<|Js<|Jp<|Jq<|Jv<|Je [1,2,2,1,2] R<|Jc3 R I37 ((bB.stp p).ld 0 R R)<|Jn 1 R<|Ob h λfY b1 h=>Jd3 R bw.rdc b1 U37 Z2<|Jc3 R I2 ((bw.stp<|T4 v x q p).rdc.gInt b1)<|Jb 1 R<|Jq<|Je [1,2,2,1] R ?_
 have bD:=dj.stp (q.tr p)
 refine Jc3 R I178 (bD.ld 0 R R)<|Jn 1 R<|Ob h λeB bP h=>Jf R (Jg2 ae.rdc bP U178 Z4 R R ah R)<|Jc3 R I4 (ae.rdc.gBool bP)<|Jd ?_
 revert h
 cases e3:eB
 refine JF λh=>Jy R<|Js<|Jp<|Je [1,1,1] R<|Jy3 aL E6 11 R Y37 bS R λcT cX fs ct y dm=>Tv<|Ju3 ct 12 R zeroValue37 R λeU ft be s dn=>Tv<|Jw3 be 12 (vc:=[.slice cT ([]:VI).length cX]) R Z37 R dn R λfu t dp=>Tv<|Jd<|Je [1,2,2,2,1] R ?_
 have bE:=bv.stp (T8 H v x q p y s t)
 have bj:=(T3 y s t)
 refine Jc3 R isAgg226 (bE.ld 0 R R)<|Jn 2 R<|Jf R (eH (first:=[]) (captured:=[.tmp 17]) R R R ⟨_,R⟩)<|Ob h λbb ee h=>WO.callV R R R R R R R R call218 (Ret.cast (by simp only[d3,List.cons_append,List.nil_append])<|gC _ (J:=λm=>mp [(11,2),(9,3),(12,4)] 0<|be m) (Jm2 (de.stp<|T16 D A B o j k g i H v x q p y s t).rdc (mp [(11,2),(9,3),(12,4)] 0) R R) ((dm.stp<|s.tr t).map (mp [(11,2),(9,3),(12,4)] 0) R R) ((ae.stp bj).map (mp [(11,2),(9,3),(12,4)] 0) R R) (Jm2 (af.stp<|K.tr<|u.tr<|I.tr<|D.tr<|A.tr<|B.tr<|o.tr<|j.tr<|k.tr<|g.tr<|i.tr<|H.tr<|v.tr<|x.tr<|q.tr<|p.tr<|y.tr<|s.tr t) (mp [(11,2),(9,3),(12,4)] 0) R R) (dp.map (mp [(11,2),(9,3),(12,4)] 0) R R) (Bc.cast ((bD.stp bj).map (mp [(11,2),(9,3),(12,4)] 0) R R) (by simp only[ah])) ((aZ.stp<|u.tr<|I.tr<|D.tr<|A.tr<|B.tr<|o.tr<|j.tr<|k.tr<|g.tr<|i.tr<|H.tr<|v.tr<|x.tr<|q.tr<|p.tr<|y.tr<|s.tr t).map (mp [(11,2),(9,3),(12,4)] 0) R R) (bE.map (mp [(11,2),(9,3),(12,4)] 0) R R) ee) ?_
 rintro _ fv ⟨e9,br,bt,rfl,c2,dq,dr,d4,ds⟩
 obtain⟨cu,ap,a8⟩:=Ji c2 13 R
 refine Tv<|?_
 have bF:=ds.mx a8 R (R:13+4=17)
 refine Jd<|Je [1,1] R<|Jc3 R I37 (bF.ld 0 R R)<|Ob h λeC ef h=>Js3 R call106 (dY (J:=λm=>mp [(15,2)] 0<|cu m) ((dq.mx (bZ _) a8 R (R:13+2=15)).map (mp [(15,2)] 0) R R) ef) ?_
 rintro _ ey ⟨fa,rfl,c3,dt,d5⟩
 obtain⟨bf,N,ep⟩:=Ji c3 18 R
 refine Tv<|Jd<|Je [1,2,2,2,2,2,2,1,2,1,2] R ?_
 have bG:=bF.stp N
 refine Jc3 R I37 (bG.ld 0 R R)<|Jo3 R U37 R R<|Jn 2 R<|Ob h λb3 h dT=>Jg4 [0,5,10,11,12,14,15,17] 120 b3 bf ey [(4,2),(5,2),(6,2),(7,1),(8,2),(9,1),(10,2)] [] tv ?_ ?_
 revert h
 cases e4:decide (1<(bb.1.length:Int))
 refine JF λh=>Jn 2 R<|Ob h λfM bQ h=>Jd3 R L bQ U31 Z37 ?_
 obtain⟨eR,ff,du,d0⟩:=(L.stp (K.tr (u.tr (I.tr (D.tr (A.tr (B.tr (o.tr (j.tr (k.tr (g.tr (i.tr (H.tr (v.tr (x.tr (q.tr (p.tr (y.tr (s.tr (t.tr (ap.tr N))))))))))))))))))))).gSl bQ
 refine Jc3 R I37 d0<|Jn 1 R<|Ob h λfN eg h=>Js3 R C89 (cj (J:=Mk bf) (Jj3 du) eg) ?_
 rintro _ fw ⟨fb,rfl,c4⟩
 obtain⟨eJ,cK,fd⟩:=Ji c4 21 R
 refine Tv<|Jn 1 R ?_
 cases h
 exact Jv1 _ tv ⟨R,_,cK.wk R⟩<|KM R
 refine JT λh=>Jn 3 R<|Ja4 R<|Jn 1 R<|Ja4 R<|Jn 1 R ?_
 cases h
 exact Jh4 tv R
 rintro _ ck _ ⟨rfl,aM,O⟩
 have h:=dT
 refine Jd<|Ob h λa9 h dU=>Jp3 [0,5,10,11,12,15] (λc e a=>∃b ax aw,e=(14,.slice ax a9.length aw)::c/\Stp [10,20,21] aM ck b a/\Oc (Ep.fz<|Rs) 37 b a 10 ax aw a9) ?_ ?_
 revert h
 cases e5:b3
 refine JF λh=>Jy R<|Js ?_
 cases h
 exact Jw1 _ ⟨aM,P,Q,R,Jk3,(aA.stp<|T6 y s t ap N O)⟩<|KM R
 refine JT λh=>Jx R<|Ji3 [2,1,1,1,2] 1 R<|Jc3 R I37 ((bG.stp O).ld 0 R R) ?_
 obtain⟨cw,bl,eG⟩:=gD aM ck 20
 refine Jx3 cw (Ep.fz<|Rs) 21 [] (parts:=[(0,.tmp 122)]) (cells:=[.slice br bb.1.length bt]) (xs:=([eC]:VV)) R Y31 bW R (Jf4 ⟨_,_,(congrArg (λer=>[Value.slice br er bt])<|d5),(Sl.z1<|Sl.st eG ((dt.mx (bZ _) ep R (R:18+2=20)).stp O).rdc)⟩) λeP eO fy cx bm dw=>Tv<|Ob h λfP eh h=>Jz3 cx (Ep.fz<|Rs) 10 [21] R Y31 bW R (aA.stp<|T8 y s t ap N O bl bm) dw.src (c9 R) eh R λcS cW fz cy cL dx=>Tv<|Jc 1 R ?_
 cases h
 exact Jw1 _ ⟨cy,cS,cW,R,(T3 bl bm cL).wk R,dx⟩<|KM R
 rintro _ fx ⟨cv,ax,aw,rfl,bk,dv⟩
 have h:=dU
 refine Jz<|Jp<|Jg3 R ?_
 cases h
 exact Ja2 ⟨(λm=>ren [(16,9)]<|cv m),(a9,((Dr .i64<|f.2.1-1):Int),bb.2),ax,aw,R,(Jz2 ((T8 p y s t ap N O bk).wk R) [(16,9)] R),(dv.map (ren [(16,9)]) R R),(((dr.mx dA a8 R (R:13+3=16)).stp (T3 N O bk)).map (ren [(16,9)]) R R),(ah.trans d4),a5⟩ R
 refine JT λh=>Jx R<|Jc1<|Jt<|Jb1<|Jp<|Jg3 R ?_
 cases h
 exact Ja2 ⟨aL,(f.1,((Dr .i64<|f.2.1-1):Int),f.2.2),P,Q,R,p.wk R,aA,ae,ah,a5⟩ R
 rintro _ fq ⟨cr,U,ay,ar,rfl,cJ,dl,eW,eZ,rfl⟩
 have h:=yI dS
 refine Jp<|Jh3 [2,1] 1 R<|Ob h λfQ ei h=>Js3 R call221 (nF (J:=λm=>mp [(10,2)] 1<|cr m) (dl.map (mp [(10,2)] 1) R R) ei) ?_
 rintro _ fA ⟨fc,rfl,c5,dy,d6⟩
 obtain⟨cz,cM,eq,eI⟩:=Jj c5 11 R
 refine Tv<|Jd<|Jf3 R<|Ju<|Jb2 (l:=[.tmp 4]) results164 (Jq2 R R) R ?_
 cases h
 exact⟨(λm=>ren [(13,2)]<|cz m),ay,ar,(by simp only[(d6)]),((dN.stp<|K.tr<|u.tr<|I.tr<|D.tr<|A.tr<|B.tr<|o.tr<|j.tr<|k.tr<|g.tr<|i.tr<|H.tr<|v.tr<|x.tr<|q.tr<|cJ.tr cM).map (ren [(13,2)]) R R),((dy.mxz eI eq R (R:11+2=13)).map (ren [(13,2)]) R R)⟩
end
end Go.Proofs.YtleekpaohfpooaaGreat
