/- The walks, part 4. By program. -/
import Derived.Test.YtfombamjdkihnaaGreatFns2EI
import Derived.Test.YtfombamjdkihnaaGreatFns3EI
set_option linter.unusedVariables false
set_option linter.unusedSimpArgs false
open Go.Wk.Ep renaming own → ER, pair → EX
open Int renaming toNat → ES
open Go.IntKind renaming wrap → ET
open Option.some renaming inj → EU
open Go.Wk.Ow renaming nil → EY
open Go.Wk.Sl renaming srcP → EV
open Sum renaming inr → EW
namespace Go.Proofs.YtfombamjdkihnaaGreat
open Tryz
open Go Go.Wk Go.Proofs
set_option maxRecDepth 100000
set_option maxHeartbeats 1000000
section
variable {w:World}{J:Col}
theorem uE {g f}{p0:dice}{n}(af:Rd (Rp.int .u8) J w 0 g f p0.b) (az:Bc J w 2 n 52 [.slice g p0.b.length f,vi p0.i,.int .u64 p0.h]){r:Clause×Int×Int}(h:nE p0=some r):Ret prog 18 [.pointer (some ⟨n,0,none⟩)] w (λau b=>∃c C E D F,au= .agg #[vi r.1.Kind,.slice C r.1.A.length E,.slice D r.1.B.length F]/\Ent J w c b/\Oc E6 2 c b 3 C E r.1.A/\Oc E6 2 c b 4 D F r.1.B/\Bc c b 2 n 52 [.slice g p0.b.length f,vi r.2.1,.int .u64 r.2.2]):=by
 refine Jp3 J func18 R ntmps18 R λaA=>Jj3<|Jy3 J 3 R zeroValue54 R λ_ _ K P _=>Tv<|Jd<|Jl3 1 R (Ob h λd an h=>have z:=af.stp P;Jw3 R C11 (ck (J:=λa=>mp [(2,2)] 0<|K a) (p0:=p0) (Jm2 z (mp [(2,2)] 0) R R) Fct an) ?_)
 rintro _ _ ⟨_,rfl,W,X⟩
 refine Im W 4 R (λI O ap=>Tv<|Jn 2 R<|Ob h λe ao h=>Jw3 R call52 (tM (J:=λa=>mp [(6,2)] 0<|I a) (p0:=(⟨p0.b,d.2.1,d.2.2⟩:dice)) (Jm2 (z.stp O) (mp [(6,2)] 0) R R) ((X.mx ap R (R:4+2=6)).map (mp [(6,2)] 0) R R) ao) ?_)
 rintro _ _ ⟨_,j,i,rfl,U,Y,Z⟩
 refine Im U 7 R (λL _ A=>Tv<|have ay:=Z.mx A R (R:7+2=9);Jf R (Jn4 [vi (ET .i64 (1+d.1)),.slice j e.1.length i,.slice none 0 0] R) (Jy3 L 11 R zeroValue54 R λT _ v _ aa=>Tv<|Jm4 v 11 R Z54 R aa R λav _ u=>Tv<|Jd<|Jq<|Jj3<|Je3 R U54 R Z2<|Jc3 R I2 (u.ld 0 R R)<|Jn 2 R<|Ob h λaq h ag=>Jk4 [0,2,3] 17 aq v av 4 tv ?_ ?_))
 exact Bk h (λaj h=>Je3 R U54 R Z2<|Jc3 R I2 (u.ld 0 R R)<|Jn 2 R<|Oh h<|Jl4 tv R) (λaj h=>Jn 1 R<|Je4 R<|Jn 2 R<|Oh h<|Jl4 tv R)
 rintro _ aw _ ⟨rfl,M,Q⟩
 refine Jn 1 R<|Ob ag λar h ah=>Jk4 [0,2,3] 22 ar M aw 4 tv ?_ ?_
 exact Bk h (λak h=>Je3 R U54 R Z2<|Jc3 R I2 ((u.stp Q).ld 0 R R)<|Jn 2 R<|Oh h<|Jl4 tv R) (λak h=>Jn 1 R<|Je4 R<|Jn 2 R<|Oh h<|Jl4 tv R)
 rintro _ ax _ ⟨rfl,p,_⟩
 refine Jd<|Ob ah λo h ai=>Jt3 [0,2,3] (λH N b=>∃c k m,N=H/\Stp [9,11,14,15] p ax c b/\Oc E6 2 c b 12 k m o.2.2/\Bc c b 9 n 52 [.slice g p0.b.length f,vi o.1,.int .u64 o.2.1]/\Bc c b 11 T 54 [vi (ET .i64 (1+d.1)),.slice j e.1.length i,.slice k o.2.2.length m]) ?_ ?_
 refine Bk h (λal h=>Jy R<|Js<|Oh h<|Jw1 _ ⟨p,none,0,R,Jo3,EY,Fct,Fct⟩<|KM R) (λal h=>Jx R<|Jm3 1 R<|Ob h λG am h=>Jw3 R call52 (tM (J:=λa=>mp [(9,2)] 0<|p a) (p0:=(⟨p0.b,e.2.1,e.2.2⟩:dice)) (Jm2 Fct (mp [(9,2)] 0) R R) Fct am) ?_)
 rintro _ _ ⟨_,s,t,rfl,V,ac,ad⟩
 exact Im V 12 R (λy S B=>Tv<|Je3 R U54 R Z31<|Jz3 y 11 (off:=2) (vc:=[.slice s G.1.length t]) (cs':=[vi (ET .i64 (1+d.1)),.slice j e.1.length i,.slice s G.1.length t]) R Z31 R Fct R λ_ q _=>Tv<|Jo<|Oh h<|Jw1 _ ⟨(λa=>ren [(15,12),(14,9)]<|y a),s,t,R,(Jz2 ((S.tr q).wk R) [(15,12),(14,9)] R),(((ac.mx (bI _) B R (R:12+3=15)).stp q).map (ren [(15,12),(14,9)]) R R),(((ad.mx B R (R:12+2=14)).stp q).map (ren [(15,12),(14,9)]) R R),Fct⟩<|KM R)
 rintro _ _ ⟨x,k,m,rfl,_,_,_,ab⟩
 exact have h:=ai;Jp (Jj3<|Jg4 tv R (Jh4 (haE ab.cells) I54 Z54 R)<|Jm4 x 3 R Z54 R Fct R λ_ _ ae=>Tv<|Jd<|Ju<|Jb2 (l:=[.cell 2 54]) results18 (bM R ae I54 Z54 R R) R<|Oh h<|⟨(λa=>ren [(10,3),(12,4),(9,2)]<|x a),j,i,k,m,R,Fct,(((Y.mx (bI _) A R (R:7+3=10)).stp Fct).map (ren [(10,3),(12,4),(9,2)]) R R),Fct,Fct⟩)
theorem oE {p0:Sig}{ba a6 aU a2}{p1:Clause}(de:Rd Ri J w 0 ba a6 p1.A) (df:Rd Ri J w 0 aU a2 p1.B){r:Det}(h:lV p0 p1=some r):Ret prog 56 [.agg #[vi p0.In,vi p0.Out],.agg #[vi p1.Kind,.slice ba p1.A.length a6,.slice aU p1.B.length a2]] w (λc4 a=>∃b bh bj bi bk,c4= .agg #[.slice bh r.Next.length bj,.slice bi r.Pairs.length bk]/\Ent J w b a/\Oc (ER E6 2) 31 b a 2 bh bj r.Next/\Oc Pair.ep96 96 b a 3 bi bk r.Pairs):=by
 refine Jp3 J func56 R ntmps56 R λdg=>Jj3<|Jx3 J 2 R λ_ _ bv _ ck=>Tv<|Jx3 bv 3 R λ_ _ bD bS cu=>Tv<|Jy3 bD 4 R X58 R λ_ _ bo aI _=>Tv<|Jd<|Jf3 R<|Jj3<|Jf R (Jn4 [.slice none 0 0,.slice none 0 0] R)<|Jy3 bo 5 R X96 R λt _ C aM b9=>Tv<|Jm4 C 5 R Z96 R b9 R λc5 aP _=>Tv<|Jd<|Jq<|Jj3<|Je3 R U54 R Z2 (have bc:=cu.stp (T3 aI aM aP);Jc3 R I2 (bc.ld 0 R R) (Jd<|Jv<|Jq<|Jf3 R<|Ob h λc3 h cB=>Jt3 [2,3,4,5,6,13] (λd e a=>∃b,e=(17,.bool c3)::d/\Stp [] C c5 b a) ?_ ?_))
 exact Bk h (λcR h=>Jy R<|Jg3 R<|Oh h<|Jw1 _ ⟨C,R,Jo3⟩<|KM R) (λcR h=>Jx R<|Js<|Oh h<|Jw1 _ ⟨C,R,Jo3⟩<|KM R)
 rintro _ B ⟨f,rfl,aS⟩
 refine Jp<|Ob cB λc h cC=>Jt3 [2,3,4,6] (λd e a=>∃b p q n o,e=(5,vi c.1)::d/\Stp [5] f B b a/\Oc E6 2 b a 6 p q c.2.1/\Oc E6 2 b a 7 n o c.2.2/\Bc b a 5 t 96 [.slice p c.2.1.length q,.slice n c.2.2.length o]) ?_ ?_
 refine Bk h (λcS h=>Jy R<|Jf3 R<|Ob h λu h cD=>Jt3 [2,3,4,6] (λd e a=>∃b ac ad Z F,e=(5,vi u.1)::d/\Stp [5] f B b a/\Oc E6 2 b a 6 ac ad u.2.1/\Oc E6 2 b a 7 Z F u.2.2/\Bc b a 5 t 96 [.slice ac u.2.1.length ad,.slice Z u.2.2.length F]) ?_ ?_) (λcS h=>Jx R<|Jk3<|Ji4 f 6 [1] R Y31 bG R λaq ao _ aE _ _=>Tv<|Je3 R U96 R Z31<|Jz3 aE 5 (off:=0) (vc:=[.slice aq ([1]:VI).length ao]) (cs':=[.slice aq ([1]:VI).length ao,.slice none 0 0]) R Z31 R Fct R λ_ _ cl=>Tv<|Jo<|Oh h<|Jw1 _ ⟨aE,aq,ao,none,0,R,Fct,Fct,EY,cl⟩<|KM R)
 refine Bk h (λcT h=>Jy R<|Jf3 R<|Ob h λv h cE=>Jt3 [2,3,4,6] (λd e a=>∃b U X W I,e=(5,vi v.1)::d/\Stp [5] f B b a/\Oc E6 2 b a 6 U X v.2.1/\Oc E6 2 b a 7 W I v.2.2/\Bc b a 5 t 96 [.slice U v.2.1.length X,.slice W v.2.2.length I]) ?_ ?_) (λcT h=>Jx R<|Jf3 R<|Jk3<|Ji4 f 6 [2] R Y31 bG R λap aw _ aF _ _=>Tv<|Je3 R U96 R Z31<|Jz3 aF 5 (off:=0) (vc:=[.slice ap ([2]:VI).length aw]) (cs':=[.slice ap ([2]:VI).length aw,.slice none 0 0]) R Z31 R Fct R λ_ _ cp=>Tv<|Jo<|Oh h<|Jw1 _ ⟨aF,ap,aw,none,0,R,Fct,Fct,EY,cp⟩<|KM R)
 refine Bk h (λcU h=>Jy R<|Jf3 R<|Ob h λx h cF=>Jt3 [2,3,4,6] (λd e a=>∃b T O N aa,e=(5,vi x.1)::d/\Stp [5] f B b a/\Oc E6 2 b a 6 T O x.2.1/\Oc E6 2 b a 7 N aa x.2.2/\Bc b a 5 t 96 [.slice T x.2.1.length O,.slice N x.2.2.length aa]) ?_ ?_) (λcU h=>Jx R<|Jk3<|Ji4 f 6 [1] R Y31 bG R λa1 a4 _ bF _ _=>Tv<|Ji4 bF 7 [0] R Y31 bG R λaV aY _ aG _ _=>Tv<|Jf R (Jn4 [.slice a1 ([1]:VI).length a4,.slice aV ([0]:VI).length aY] R)<|Jm4 aG 5 R Z96 R Fct R λ_ _ ct=>Tv<|Jo<|Oh h<|Jw1 _ ⟨aG,a1,a4,aV,aY,R,Fct,Fct,Fct,ct⟩<|KM R)
 refine Bk h (λcV h=>Jy R<|Jf3 R<|Ob h λy h cy=>Jt3 [2,3,4,6] (λd e a=>∃b M E V L,e=(5,vi y.1)::d/\Stp [5] f B b a/\Oc E6 2 b a 6 M E y.2.1/\Oc E6 2 b a 7 V L y.2.2/\Bc b a 5 t 96 [.slice M y.2.1.length E,.slice V y.2.2.length L]) ?_ ?_) (λcV h=>Jx R<|Jk3<|Ji4 f 6 [0,1] R Y31 bG R λaX a3 _ bI _ _=>Tv<|Ji4 bI 7 [1] R Y31 bG R λaZ a7 _ aH _ _=>Tv<|Jf R (Jn4 [.slice aX ([0,1]:VI).length a3,.slice aZ ([1]:VI).length a7] R)<|Jm4 aH 5 R Z96 R Fct R λ_ _ bZ=>Tv<|Jo<|Oh h<|Jw1 _ ⟨aH,aX,a3,aZ,a7,R,Fct,Fct,Fct,bZ⟩<|KM R)
 exact Bk h (λcQ h=>Jy R<|Jf3 R<|Jk3<|Ji4 f 6 [2,3] R Y31 bG R λa0 a9 _ bq _ _=>Tv<|Ji4 bq 7 [1,3] R Y31 bG R λaW a8 _ aA _ _=>Tv<|Jf R (Jn4 [.slice a0 ([2,3]:VI).length a9,.slice aW ([1,3]:VI).length a8] R)<|Jm4 aA 5 R Z96 R Fct R λ_ _ b4=>Tv<|Jo<|Oh h<|Jw1 _ ⟨aA,a0,a9,aW,a8,R,Fct,Fct,Fct,b4⟩<|KM R) (λcQ h=>Jx R<|Jk3<|Ji4 f 6 [0] R Y31 bG R λar av _ az _ _=>Tv<|Je3 R U96 R Z31<|Jz3 az 5 (off:=0) (vc:=[.slice ar ([0]:VI).length av]) (cs':=[.slice ar ([0]:VI).length av,.slice none 0 0]) R Z31 R Fct R λ_ _ b3=>Tv<|Jo<|Oh h<|Jw1 _ ⟨az,ar,av,none,0,R,Fct,Fct,EY,b3⟩<|KM R)
 rintro _ _ ⟨bp,M,E,V,L,rfl,_,b0,b1,b2⟩
 cases cy
 exact Jw1 _ ⟨bp,M,E,V,L,R,Fct,b0,b1,b2⟩<|KM R
 rintro _ _ ⟨bH,T,O,N,aa,rfl,_,cv,cw,cx⟩
 cases cF
 exact Jw1 _ ⟨bH,T,O,N,aa,R,Fct,cv,cw,cx⟩<|KM R
 rintro _ _ ⟨bE,U,X,W,I,rfl,_,cq,cr,cs⟩
 cases cE
 exact Jw1 _ ⟨bE,U,X,W,I,R,Fct,cq,cr,cs⟩<|KM R
 rintro _ _ ⟨bC,ac,ad,Z,F,rfl,_,cm,cn,co⟩
 cases cD
 exact Jw1 _ ⟨bC,ac,ad,Z,F,R,Fct,cm,cn,co⟩<|KM R
 rintro _ bn ⟨aj,p,q,n,o,rfl,aT,ch,ci,cj⟩
 refine have h:=cC;Jz (Jp<|Jj3<|Jg4 tv R (Jh4 (haE cj.cells) I96 Z96 R)<|Jb4 aj Pair.ep96 8 [6,7] (parts:=[(0,.tmp 40)]) (cells:=[.slice p c.2.1.length q,.slice n c.2.2.length o]) (xs:=([(⟨c.2.1,c.2.2⟩:Pair)]:VP)) R Y56 cN R (Jj4 ⟨[.slice p c.2.1.length q],[.slice n c.2.2.length o],Zl aj bn [6],Zl aj bn [7],R,Zl.sp (l1:=[6]) (l2:=[7]) R,Zl.sr (l1:=[6]) (l2:=[7]),⟨_,_,R,ch⟩,⟨_,_,R,ci⟩⟩) λm s _ br aJ _=>Tv<|Jf R (Jn4 [.slice none 0 0,.slice m ([(⟨c.2.1,c.2.2⟩:Pair)]:VP).length s] R)<|Jy3 br 9 R X58 R λa5 _ D aK b5=>Tv<|Jm4 D 9 R Z58 R b5 R λbl aL b6=>Tv<|Jd<|Jq<|Jf3 R (Ob h λ_ cO h=>have cG:=hU cO;Ob h λbg cL cz=>Jt3 [4,7] (λd e a=>∃b,∃ag:VV,∃K G,e=d/\Stp [9,10,11,14] D bl b a/\Oc (ER E6 2) 31 b a 10 K G ag/\Bc b a 9 a5 58 [.slice K ag.length G,.slice m ([(⟨c.2.1,c.2.2⟩:Pair)]:VP).length s]/\bg=EW ag) (Jv<|Ju3 [2,3,4,7,43] (λg d e a=>∃b i,∃A:VV,∃H S,e=(44,vi i)::d/\Stp [9,10,11,14] D bl b a/\Oc (ER E6 2) 31 b a 10 H S A/\Bc b a 9 a5 58 [.slice H A.length S,.slice m ([(⟨c.2.1,c.2.2⟩:Pair)]:VP).length s]/\0<=i/\ES (c.1-i)=g/\cntM (fY p0 p1) g i A=some bg) ⟨_,_,⟨D,0,([]:VV),none,0,R,Jo3,EY,b6,(by decide),(by simp),cL⟩,(KM R)⟩ ?_) ?_))
 rintro g _ _ ⟨aC,i,A,H,S,rfl,aN,b8,bb,cI,bd,h⟩
 rcases g with _|g
 exact Jf3 R<|Jq<|Jx2 R (dcf bd)<|Jc1<|Jt<|Jt<|Jb1<|Oh h<|Jw1 _ ⟨aC,A,H,S,R,Fct,b8,bb,R⟩<|KM R
 refine Ob h λdh h cJ=>have af:=dct bd;Jf3 R (Jq<|Jw2 R af<|Js<|Jp<|Jq<|Jv<|Jf3 R<|Jj3<|Jc4 aC E6 11 R Y31 bG R λbV bW _ bs al _=>Tv<|Jb 1 R<|Jq<|Jj3<|Jg4 tv R (Jh4 (haE (ck.stp<|T11 bS aI aM aP aS aT aJ aK aL aN al).cells) I28 Z28 R)<|Ob h λc6 cX h=>Jw3 R call54 (fX (J:=Mk bs) (p0:=p0) cX)<|Ki λbm ah aO=>Tv<|Jb 1 R (Ob h λ_ cP h=>have cH:=hU cP;Ob h λbf cM cA=>Jt3 [2,3,4,7,43,44] (λd e a=>∃b,∃j:VI,∃P ab,e=(9,.slice P j.length ab)::d/\Stp [11] ah bm b a/\Oc E6 2 b a 11 P ab j/\bf=EW j) (Jv<|Ju3 [2,3,4,7,8,43,44,49] (λg d e a=>∃b k,∃z:VI,∃Y Q,e=(9,.slice Y z.length Q)::(50,vi k)::d/\Stp [11] ah bm b a/\Oc E6 2 b a 11 Y Q z/\0<=k/\ES (c6-k)=g/\cntM (fZ p1 i) g k z=some bf) ⟨_,_,⟨ah,0,([]:VI),bV,bW,R,Jo3,Fct,(by decide),(by simp),cM⟩,(KM R)⟩ ?_) ?_))
 rintro g _ _ ⟨ai,k,z,Y,Q,rfl,bN,cb,be,ae,h⟩
 rcases g with _|g
 exact Jf3 R<|Jq<|Jx2 R (dcf ae)<|Jc1<|Jt<|Jt<|Jb1<|Oh h<|Jw1 _ ⟨ai,z,Y,Q,R,Fct,cb,R⟩<|KM R
 refine Ob h λdi h cK=>Jf3 R<|Jq<|Jw2 R (dct ae)<|Js<|Jp<|Jq<|Jv<|Jf3 R<|Xn ai [3] [2,5,11,14,20,26,32,6,15,27,22,34,37,40,43,47] λ_ bP=>Jn 1 R<|Je3 R U54 R Z2<|Jn 1 R<|Je3 R U54 R Z31<|Jn 1 R<|Je3 R U54 R Z31<|Jn 1 R (have ax:=bc.stp (T10 aS aT aJ aK aL aN al aO bN bP);Jg R (Jd2 I2 R R<|hvC (ax.ld 0 R R) R) (Jg R (Jd2 I31 R R<|hvC (ax.ld 1 R R) R)<|Jg R (Jd2 I31 R R<|hvC (ax.ld 2 R R) R)<|Ob h λ_ cY h=>Jw3 R C38 (bT (J:=Mk ai) Gct cY)<|Kb λ_ bu am=>⟨(am.cl R),Ob h λ_ cZ h=>Jw3 R C38 (bT (J:=Mk bu) Gct cZ)<|Kb λ_ bw aQ=>⟨((am.tr aQ).cl R),Ob h λc8 c0 h=>Jw3 R call104 (rG (J:=Mk bw) c0) (Ki λ_ bx bQ=>have ak:=(T3 am aQ bQ);⟨(ak.cl R),Ji4 bx 20 [c8] R Y31 bG R λdd db _ bz aR cc=>⟨((ak.tr aR).cl R),Ob h λc9 c1 h=>Jd4 bz E6 11 [] R Y31 bG R Fct (EV (bO _) cc.rdc) bJ c1 R λbY bX _ bA bR cd=>⟨((T3 ak aR bR).cl R),Jn 1 R<|Jt1<|Jo<|Jz<|Jp<|Jg3 R<|wr2 be ae cH ▸ ?_⟩⟩⟩)⟩⟩))
 cases h
 exact Ja2 ⟨bA,k+1,c9,bY,bX,R,Fct,cd,nxz be,nxm ae,cK⟩ R
 rintro _ _ ⟨bt,j,P,ab,rfl,bK,ca,rfl⟩
 refine have h:=yI cA;Jp (Jk3<|Je3 R U58 R Z32<|Jc3 R I32 ((bb.stp<|T3 al aO bK).ld 0 R R)<|Jn 1 R<|Jb4 bt (ER E6 2) 14 [11] (parts:=[(0,.tmp 71)]) (cells:=[.slice P j.length ab]) (xs:=([j]:VV)) R Y32 bL R (Jj4 ⟨_,_,R,ca⟩) λdc da _ bB _ ce=>Tv<|Ob h λay c2 h=>Jd4 bB (ER E6 2) 10 [14] R Y32 bL R Fct ce.src (c7 R) c2 R λan au _ aD _ _=>Tv<|Je3 R U58 R Z32<|Jz3 aD 9 (off:=0) (vc:=[.slice an ay.length au]) (cs':=[.slice an ay.length au,.slice m ([(⟨c.2.1,c.2.2⟩:Pair)]:VP).length s]) R Z32 R Fct R λ_ _ cf=>Tv<|Jo<|Jz<|Jp<|Jg3 R ?_)
 have cW:ET .i64 (i+1)=i+1:=wr1 cI (Jn2 af) cG
 rw[cW]
 have af:=Jn2 af
 cases h
 exact Ja2 ⟨aD,i+1,ay,an,au,R,Fct,Fct,cf,by omega,by omega,cJ⟩ R
 rintro _ _ ⟨aB,ag,K,G,rfl,_,_,b7,rfl⟩
 exact have h:=yI cz;Jp (Jj3<|Jg4 tv R (Jh4 (haE b7.cells) I58 Z58 R)<|Jm4 aB 4 R Z58 R Fct R λ_ _ cg=>Tv<|Jd<|Ju<|Jb2 (l:=[.cell 4 58]) results56 (bM R cg I58 Z58 R R) R<|Oh h<|⟨(λbU=>ren [(10,2),(8,3)]<|aB bU),K,G,m,s,R,Fct,Fct,Fct⟩)
theorem lc {aM aJ az av}{p0:Det}{ar N ay T}{p1:Det}(cg:Rd Rs J w 0 aM aJ p0.Next) (fn:Rd Pair.rp J w 0 az av p0.Pairs) (ch:Rd Rs J w 0 ar N p1.Next) (fo:Rd Pair.rp J w 0 ay T p1.Pairs){r:Det×Bool}(h:j5 p0 p1=some r):Ret prog 55 [.agg #[.slice aM p0.Next.length aJ,.slice az p0.Pairs.length av],.agg #[.slice ar p1.Next.length N,.slice ay p1.Pairs.length T]] w (λeX a=>∃b cD cF cE cG,eX= .tuple #[.agg #[.slice cD r.1.Next.length cF,.slice cE r.1.Pairs.length cG],.bool r.2]/\Ent J w b a/\Oc (ER E6 2) 31 b a 2 cD cF r.1.Next/\Oc Pair.ep96 96 b a 3 cE cG r.1.Pairs):=by
 refine Jp3 J func55 R ntmps55 R λfp=>Jj3<|Jx3 J 2 R λ_ _ c0 b4 d2=>Tv<|Jx3 c0 3 R λ_ _ c6 a6 d6=>Tv<|Jy3 c6 4 R X58 R λ_ cO F al dp=>Tv<|Jb 1 R<|Jq<|Jj3<|Je3 R U58 R Z56 (have bk:=d2.stp (a6.tr al);Jc3 R I56 (bk.ld 1 R R) (Js3 R U56 R R<|Je3 R U58 R Z56 (have bl:=d6.stp al;Jc3 R I56 (bl.ld 1 R R) (Js3 R U56 R R<|Jb 2 R ?_))))
 refine Bk h (λeG h=>Jy R<|Js<|Jp<|Jj3<|Jf R (Jn4 [vi 0,vi 0] R)<|Jb4 F (EX E6 E6) 5 [] (parts:=[(0,.tmp 30)]) (cells:=[vi 0,vi 0]) (xs:=([(0,0)]:List (Int×Int))) R Y92 jf R (Jj4 ⟨[vi 0],[vi 0],Zl F cO [],Zl F cO [],R,Zl.sp (l1:=[]) (l2:=[]) R,Zl.sr (l1:=[]) (l2:=[]),R,R⟩) λdj dk _ c1 I _=>Tv<|Jb 1 R<|Jj3<|Jf R (Jn4 [.slice none 0 0,.slice none 0 0] R)<|Jy3 c1 6 R X58 R λD _ aj K dS=>Tv<|Jm4 aj 6 R Z58 R dS R λcL L dX=>Tv<|Jd<|Jq<|Jf3 R<|Ob h λcA ex cl=>Jt3 [2,3,4,7] (λd e a=>∃b,∃f:(List<|Int×Int)×Int×VV,∃bj bd n m,e=(6,.slice bj f.1.length bd)::d/\Stp [5,6,7,8,9] aj cL b a/\Oc (EX E6 E6) 88 b a 5 bj bd f.1/\Oc (ER E6 2) 31 b a 7 n m f.2.2/\Bc b a 6 D 58 [.slice n f.2.2.length m,.slice none 0 0]/\cA=EW f) (Jv<|Ju3 [2,3,4,7] (λc d e a=>∃b,∃g:(List<|Int×Int)×Int×VV,∃W M ap ao,e=(6,.slice W g.1.length M)::(8,vi g.2.1)::d/\Stp [5,6,7,8,9] aj cL b a/\Oc (EX E6 E6) 88 b a 5 W M g.1/\Oc (ER E6 2) 31 b a 7 ap ao g.2.2/\Bc b a 6 D 58 [.slice ap g.2.2.length ao,.slice none 0 0]/\bQ (iG p0 p1) c g=some cA) ⟨_,_,⟨aj,((([(0,0)]:List (Int×Int)):(List<|Int×Int)),(0:Int),([]:VV)),dj,dk,none,0,R,Jo3,Fct,EY,dX,ex⟩,(KM R)⟩ ?_) ?_) (λeG h=>Jx R<|Jj3<|Jf R (Jn4 [.slice none 0 0,.slice none 0 0] R)<|Jm4 F 4 R Z58 R dp R λ_ _ dA=>Tv<|Jb 1 R<|Ju<|Jw<|Jb2 (l:=[.cell 4 58,.tmp 5]) results55 (bM R dA I58 Z58 R<|Jq2 R R) R<|Oh h<|⟨F,none,0,none,0,R,Fct,EY,EY⟩)
 rintro c _ _ ⟨bN,g,W,M,ap,ao,rfl,an,bo,d3,cb,h⟩
 rcases c with _|c
 cases h
 refine Ob h λ_ h bs=>Jq<|Jl3 2 R<|Js3 R U92 R R<|Jb 1 R ?_
 refine Bk h (λeJ h=>Jy R<|Jc1<|Jt<|Jt ?_) (λeJ h=>Jx R<|Js<|Jp<|Jq<|Jv<|Jj3<|Jc4 bN E6 8 R Y31 bG R λde dh _ ak z _=>Tv<|Jb 1 R<|Jq<|Jq<|Xn ak [0,2,5] [2,8,11,14,17,32,3,18,23,24,29] λcM A=>Je3 R U58 R Z32<|Jn 2 R<|Ob h λ_ cs h=>Jd3 R bo.rdc cs U92 Z88<|Jf R (eN U88 Z2 R R R R)<|Jn 1 R<|Jg R (Jd2 I32 R R<|hvC ((bk.stp<|T6 I K L an z A).ld 0 R R) R) ?_)
 cases h
 exact have h:=bs;Jb1 (Oh h<|Jw1 _ ⟨bN,(g.1,g.2.1,g.2.2),W,M,ap,ao,R,Fct,bo,d3,cb,R⟩<|KM R)
 have cc:=bo.stp (z.tr A)
 obtain⟨_,eC,es⟩:=(cc.rdc).gSt cs
 obtain⟨_,_,rfl,rfl,rfl⟩:=eC
 refine Jg R (Jd2 I2 R R<|hvC (λa bt=>es a bt 0 _ R) R)<|Ob h λcS ct h=>Jd3 R cg ct U32 Z31 ?_
 obtain⟨_,_,bp,en⟩:=(cg.stp (T9 b4 a6 al I K L an z A)).gSl ct
 refine Jg R (Jd2 I31 R R<|hvC en R)<|Js3 R U31 R R<|Jt1<|Jd<|Ob h λcB ey ef=>Jt3 [2,3,4,7,8] (λd e a=>∃b,∃o:(List<|Int×Int)×VI,∃aK aE aB aC,e=(6,.slice aK o.1.length aE)::(9,.slice aB o.2.length aC)::d/\Stp [5,8,9] ak cM b a/\Oc (EX E6 E6) 88 b a 5 aK aE o.1/\Oc E6 2 b a 8 aB aC o.2/\cB=EW o) (Jv<|Ju3 [2,3,4,7,8,48,49] (λc d e a=>∃b t,∃q:(List<|Int×Int)×VI,∃aa Z aN aL,e=(6,.slice aa q.1.length Z)::(9,.slice aN q.2.length aL)::(50,vi t)::d/\Stp [5,8,9] ak cM b a/\Oc (EX E6 E6) 88 b a 5 aa Z q.1/\Oc E6 2 b a 8 aN aL q.2/\0<=t/\ES ((cS.length:Int)-t)=c/\cntM (fW p1 g cS) c t q=some cB) ⟨_,_,⟨ak,0,(g.1,([]:VI)),W,M,de,dh,R,Jo3,cc,Fct,(by decide),(by simp),ey⟩,(KM R)⟩ ?_) ?_
 rintro c _ _ ⟨a1,t,q,aa,Z,aN,aL,rfl,a7,bq,d5,ei,ck,h⟩
 rcases c with _|c
 exact Jf3 R<|Jq<|Jx2 R (dcf ck)<|Jc1<|Jt<|Jt<|Jb1<|Oh h<|Jw1 _ ⟨a1,(q.1,q.2),aa,Z,aN,aL,R,Fct,bq,d5,R⟩<|KM R
 refine Ob h λft h em=>have aS:=dct ck;Jf3 R (Jq<|Jw2 R aS<|Js<|Jp<|Jq<|Jv<|Jl3 1 R<|Ob h λaf cu h=>Jd3 R bp cu U31 Z2<|Jc3 R I2 ((bp.stp a7).gInt cu)<|Jb 2 R<|Jq<|Xn a1 [0,3,5] [2,5,11,14,17,20,32,6,21,26,27,35,36,41,43,46] λ_ a8=>Jn 1 R<|Je3 R U58 R Z32<|Jn 2 R<|Ob h λ_ cv h=>Jd3 R bq.rdc cv U92 Z88<|Jf R (eN U88 Z2 R R R R)<|Jn 1 R<|Jg R (Jd2 I32 R R<|hvC ((bl.stp<|T8 I K L an z A a7 a8).ld 0 R R) R) ?_)
 have cd:=bq.stp a8
 obtain⟨_,eD,et⟩:=(cd.rdc).gSt cv
 obtain⟨_,_,rfl,rfl,rfl⟩:=eD
 refine Jg R (Jd2 I2 R R<|hvC (λa bt=>et a bt 1 _ R) R)<|Ob h λ_ cw h=>Jd3 R ch cw U32 Z31 ?_
 obtain⟨_,_,ce,eo⟩:=(ch.stp (T11 b4 a6 al I K L an z A a7 a8)).gSl cw
 refine Jg R (Jd2 I31 R R<|hvC eo R)<|Ob h λag cx h=>Jd3 R ce cx U31 Z2<|Jg R (Jd2 I2 R R<|hvC (ce.gInt cx) R)<|Jf R (Jn4 [vi af,vi ag] R)<|Jy3 a1 9 R X88 R λ_ _ bP a9 d8=>⟨(a9.cl R),Jm4 bP 9 R Z88 R d8 R λ_ b5 cf=>⟨((a9.tr b5).cl R),Jt1<|Jd<|Jl3 1 R<|Jg4 tv R (Jh4 (haE cf.cells) I88 Z88 R)<|Ob h λfA eT h=>Jw3 R call103 (jd (J:=Mk bP) (p1:=(af,ag)) (Jn3 (cd.stp<|a9.tr b5).rdc) eT)<|Ki λbv H dc=>Tv<|Jb 1 R<|Jq<|Jf3 R<|Ob h λac h d9=>Jt3 [2,3,4,7,8,9,48,49,50] (λd e a=>∃b aA aG,e=(6,.slice aA ac.1.length aG)::(13,vi ac.2)::d/\Stp [5] H bv b a/\Oc (EX E6 E6) 88 b a 5 aA aG ac.1) ?_ ?_⟩⟩
 exact Bk h (λeE h=>Jy R<|Js<|Oh h<|Jw1 _ ⟨H,aa,Z,R,Jo3,Fct⟩<|KM R) (λeE h=>Jx R<|Jl3 1 R<|Js3 R U92 R R<|Jb 1 R<|Jm3 1 R<|Jg4 tv R (Jh4 (haE (cf.stp dc).cells) I88 Z88 R)<|Jb4 H (EX E6 E6) 12 [] (parts:=[(0,.tmp 77)]) (cells:=[vi af,vi ag]) (xs:=([(af,ag)]:List (Int×Int))) R Y92 jf R (Jj4 ⟨[vi af],[vi ag],Zl H bv [],Zl H bv [],R,Zl.sp (l1:=[]) (l2:=[]) R,Zl.sr (l1:=[]) (l2:=[]),R,R⟩) λe8 e7 _ cU _ dm=>Tv<|Ob h λ_ eU h=>Jd4 cU (EX E6 E6) 5 [] R Y92 jf R Fct (EV (zE (bO _)<|bO _) dm.rdc) bJ eU R λdf di _ cV _ dn=>Tv<|Jc 1 R<|Oh h<|Jw1 _ ⟨cV,df,di,R,Fct,dn⟩<|KM R)
 rintro _ _ ⟨cT,aA,aG,rfl,_,_⟩
 refine have h:=d9;Jp (Jm3 2 R<|Ji4 cT 12 [ac.2] R Y31 bG R λfd fh _ cW _ dq=>Tv<|Ob h λe1 eV h=>Jd4 cW E6 8 [] R Y31 bG R Fct (EV (bO _) dq.rdc) bJ eV R λdg dl _ cX _ ds=>Tv<|Jc 1 R<|Jz<|Jp<|Jg3 R ?_)
 have eM:ET .i64 (t+1)=t+1:=wr1 ei (Jn2 aS) bp.len_le
 rw[eM]
 have aS:=Jn2 aS
 cases h
 exact Ja2 ⟨cX,t+1,(ac.1,e1),aA,aG,dg,dl,R,Fct,Fct,ds,by omega,by omega,em⟩ R
 rintro _ _ ⟨a0,o,aK,aE,aB,aC,rfl,db,_,d4,rfl⟩
 refine have h:=yI ef;Jp (Jq<|Jl3 1 R<|Js3 R U92 R R<|Jb 1 R ?_)
 refine Bk h (λeF h=>Jy R<|Js<|Jp<|Jk3<|Je3 R U58 R Z32<|Jc3 R I32 ((cb.stp<|T3 z A db).ld 0 R R)<|Jn 1 R<|Jb4 a0 (ER E6 2) 9 [8] (parts:=[(0,.tmp 91)]) (cells:=[.slice aB o.2.length aC]) (xs:=([o.2]:VV)) R Y32 bL R (Jj4 ⟨_,_,R,d4⟩) λfe fi _ cY _ du=>Tv<|Ob h λbx eW h=>Jd4 cY (ER E6 2) 7 [9] R Y32 bL R Fct du.src (c7 R) eW R λbf bg _ bz _ _=>Tv<|Je3 R U58 R Z32<|Jz3 bz 6 (off:=0) (vc:=[.slice bf bx.length bg]) (cs':=[.slice bf bx.length bg,.slice none 0 0]) R Z32 R Fct R λ_ _ dv=>Tv<|Jo<|Jz<|Jp<|Jg3 R ?_) (λeF h=>Jx R<|Jj3<|Jf R (Jn4 [.slice none 0 0,.slice none 0 0] R)<|Jm4 a0 4 R Z58 R Fct R λ_ _ dt=>Tv<|Jb 1 R<|Ju<|Jw<|Ja1<|Jw<|Jw ?_)
 cases h
 exact Ja2 ⟨bz,(o.1,((ET .i64<|g.2.1+1):Int),bx),aK,aE,bf,bg,R,Fct,Fct,Fct,dv,bs⟩ R
 cases h
 obtain rfl:=EU bs
 exact have h:=yL cl;Ja1 (Jr2<|Jw<|Jb2 (l:=[.cell 4 58,.tmp 5]) results55 (bM R dt I58 Z58 R<|Jq2 R R) R<|Oh h<|⟨a0,none,0,none,0,R,Fct,EY,EY⟩)
 rintro _ aU ⟨G,f,bj,bd,n,m,rfl,da,bn,_,_,rfl⟩
 refine have h:=yI cl;have bR:=(T4 I K L da);Jp (Jq<|Jj3<|Jg4 tv R (Jh4 (haE (bk.stp bR).cells) I58 Z58 R)<|Jg4 tv R (Jh4 (haE (bl.stp bR).cells) I58 Z58 R)<|Jb4 G (Ep.fz Det.rp) 8 [] (parts:=[(0,.tmp 95),(1,.tmp 96)]) (cells:=[.slice aM p0.Next.length aJ,.slice az p0.Pairs.length av,.slice ar p1.Next.length N,.slice ay p1.Pairs.length T]) (xs:=([p0,p1]:List Det)) R underlying141 yp R ⟨[.slice aM p0.Next.length aJ,.slice az p0.Pairs.length av],[.slice ar p1.Next.length N,.slice ay p1.Pairs.length T],Zl G aU [],Zl G aU [],R,Zl.sp (l1:=[]) (l2:=[]) R,Zl.sr (l1:=[]) (l2:=[]),(Det.mk_rel (Sl.z1 Fct)<|Sl.z1 Fct),⟨[.slice ar p1.Next.length N,.slice ay p1.Pairs.length T],[],Zl G aU [],Zl G aU [],R,Zl.sp (l1:=[]) (l2:=[]) R,Zl.sr (l1:=[]) (l2:=[]),(Det.mk_rel (Sl.z1 Fct)<|Sl.z1 Fct),R⟩⟩ λfc e9 cH aV c8 bm=>Tv<|Js3 R runUnderlying141 R R<|Jb 1 R<|Ob h λcC eu ea=>Jt3 [4,7] (λd e a=>∃b,∃aT:VP,∃aD aq,e=d/\Stp [6,9,10,11,12,13,14,15] aV cH b a/\Oc Pair.ep96 96 b a 9 aD aq aT/\Bc b a 6 D 58 [.slice n f.2.2.length m,.slice aD aT.length aq]/\cC=EW aT) (Jv<|Ju3 [4,6,7,97,98] (λc d e a=>∃b u,∃E:VP,∃U O,e=(99,vi u)::d/\Stp [6,9,10,11,12,13,14,15] aV cH b a/\Oc Pair.ep96 96 b a 9 U O E/\Bc b a 6 D 58 [.slice n f.2.2.length m,.slice U E.length O]/\0<=u/\ES ((([p0,p1]:List Det).length:Int)-u)=c/\cntM (dr p0 p1 f) c u E=some cC) ⟨_,_,⟨aV,0,([]:VP),none,0,R,Jo3,EY,Fct,(by decide),(by simp),eu⟩,(KM R)⟩ ?_) ?_)
 rintro c _ _ ⟨bB,u,E,U,O,rfl,bS,dx,dy,cm,aP,h⟩
 rcases c with _|c
 exact Jf3 R<|Jq<|Jx2 R (dcf aP)<|Jc1<|Jt<|Jt<|Jb1<|Oh h<|Jw1 _ ⟨bB,E,U,O,R,Fct,dx,dy,R⟩<|KM R
 refine Ob h λfq h ej=>Jf3 R<|Jq<|Jw2 R (dct aP)<|Js<|Jp<|Jq<|Jv<|Jl3 1 R<|Ob h λcP cn h=>Jd3 R bm.rdc cn runUnderlying141 Z58 ?_
 obtain⟨_,ez,ep⟩:=Ow.gZS (bm.stp bS) cn
 obtain⟨e2,fu,e3,fv,rfl,fk,br⟩:=Det.un ez
 refine Jg4 tv R (Jh4 (haE ep) I58 Z58 R)<|Jy3 bB 10 R X58 R λ_ _ ah bU dz=>Tv<|Jn 1 R<|Jm4 ah 10 R Z58 R dz R λcI bV dB=>Tv<|Jd<|Jj3<|Je3 R U58 R Z56<|Jc3 R I56 (dB.ld 1 R R)<|Js3 R U56 R R<|Jb 1 R<|Ob h λcy ev eb=>Jt3 [4,6,7,97,98,99] (λd e a=>∃b,∃ae:VP,∃aI au,e=d/\Stp [6,9,11,12,13,14,15] ah cI b a/\Oc Pair.ep96 96 b a 9 aI au ae/\Bc b a 6 D 58 [.slice n f.2.2.length m,.slice aI ae.length au]/\cy=EW ae) (Jv<|Ju3 [4,6,7,14,97,98,99,105,106] (λc d e a=>∃b s,∃ad:VP,∃aw aH,e=(107,vi s)::d/\Stp [6,9,11,12,13,14,15] ah cI b a/\Oc Pair.ep96 96 b a 9 aw aH ad/\Bc b a 6 D 58 [.slice n f.2.2.length m,.slice aw ad.length aH]/\0<=s/\ES ((cP.Pairs.length:Int)-s)=c/\cntM (d7 f u cP) c s ad=some cy) ⟨_,_,⟨ah,0,E,U,O,R,Jo3,Fct,Fct,(by decide),(by simp),ev⟩,(KM R)⟩ ?_) ?_
 rintro c _ _ ⟨bC,s,ad,aw,aH,rfl,bW,dE,b7,eg,ci,h⟩
 rcases c with _|c
 exact Jf3 R<|Jq<|Jx2 R (dcf ci)<|Jc1<|Jt<|Jt<|Jb1<|Oh h<|Jw1 _ ⟨bC,ad,aw,aH,R,Fct,dE,b7,R⟩<|KM R
 refine Ob h λfr h ek=>have aQ:=dct ci;Jf3 R (Jq<|Jw2 R aQ<|Js<|Jp<|Jq<|Jv<|Jj3<|Ob h λe0 co h=>Jd3 R br co U56 Z96 ?_)
 obtain⟨_,eA,eq⟩:=((br.stp (T3 bU bV bW))).gSt co
 obtain⟨e4,fw,e5,fx,rfl,fl,fm⟩:=Pair.un eA
 refine Jg4 tv R (Jh4 (haE eq) I96 Z96 R)<|Jy3 bC 11 R X96 R λ_ _ bD bX dF=>Tv<|Jm4 bD 11 R Z96 R dF R λ_ bY dG=>Tv<|Jd<|Jj3<|Jf R (Jn4 [.slice none 0 0,.slice none 0 0] R)<|Jy3 bD 12 R X96 R λaO _ ai a2 dH=>Tv<|Jm4 ai 12 R Z96 R dH R λcJ a3 dI=>Tv<|Jd<|Jq<|Jl3 1 R<|Js3 R U92 R R<|Jb 1 R<|Ob h λcz ew ec=>Jt3 [4,6,7,14,18,97,98,99,105,106,107] (λd e a=>∃b,∃i:VI×VI,∃S V X Q,e=d/\Stp [12,13,14,15] ai cJ b a/\Oc E6 2 b a 13 S V i.1/\Oc E6 2 b a 14 X Q i.2/\Bc b a 12 aO 96 [.slice S i.1.length V,.slice X i.2.length Q]/\cz=EW i) (Jv<|Ju3 [4,6,7,14,17,18,97,98,99,105,106,107,112,113] (λc d e a=>∃b k,∃j:VI×VI,∃Y P x y,e=(114,vi k)::d/\Stp [12,13,14,15] ai cJ b a/\Oc E6 2 b a 13 Y P j.1/\Oc E6 2 b a 14 x y j.2/\Bc b a 12 aO 96 [.slice Y j.1.length P,.slice x j.2.length y]/\0<=k/\ES ((f.1.length:Int)-k)=c/\cntM (iH f u e0) c k j=some cz) ⟨_,_,⟨ai,0,(([]:VI),([]:VI)),none,0,none,0,R,Jo3,EY,EY,dI,(by decide),(by simp),ew⟩,(KM R)⟩ ?_) ?_
 rintro c _ _ ⟨bE,k,j,Y,P,x,y,rfl,bZ,dM,dN,b8,eh,cj,h⟩
 rcases c with _|c
 exact Jf3 R<|Jq<|Jx2 R (dcf cj)<|Jc1<|Jt<|Jt<|Jb1<|Oh h<|Jw1 _ ⟨bE,(j.1,j.2),Y,P,x,y,R,Fct,dM,dN,b8,R⟩<|KM R
 refine Ob h λfs h el=>have aR:=dct cj;Jf3 R (Jq<|Jw2 R aR<|Js<|Jp<|Jq<|Jv<|Jl3 1 R<|Ob h λv cp h=>Jd3 R bn.rdc cp U92 Z88 ?_)
 obtain⟨_,eB,er⟩:=((bn.stp (T10 c8 bS bU bV bW bX bY a2 a3 bZ)).rdc).gSt cp
 obtain⟨_,_,rfl,rfl,rfl⟩:=eB
 refine Jg4 tv R (Jh4 (haE er) I88 Z88 R)<|Jy3 bE 15 R X88 R λb6 _ aX b0 dO=>Tv<|Jn 1 R<|Jm4 aX 15 R Z88 R dO R λ_ b1 dP=>Tv<|Jd<|Jq<|Jq<|Xn aX [11,15] [2,8,11,3,12,16] λ_ a4=>Je3 R U96 R Z31<|Jn 1 R<|Ob h λ_ cq h=>Jf R (vl (xs:=([v.1,v.2]:VI)) (p:=⟨b6,0,none⟩) cq R U88 Z2 R R R) (have b9:=dG.stp (T6 a2 a3 bZ b0 b1 a4);Jg R (Jd2 I31 R R<|hvC (b9.ld 0 R R) R) (have ca:=dP.stp a4;Jg R (Jd2 I2 R R<|hvC (ca.ldD (xs:=([v.1,v.2]:VI)) 0 R cq R) R) (Ob h λfy eO h=>Jw3 R C38 (bT (J:=Mk aX) Gct eO)<|Kb λeY aY am=>⟨(am.cl R),Jt1<|Jd<|Ob h λab h ed=>Jt3 [4,6,7,14,17,18,19,20,97,98,99,105,106,107,112,113,114] (λd e a=>∃b B C,e=d/\Stp [12,13] aY eY b a/\Oc E6 2 b a 13 B C ab/\Bc b a 12 aO 96 [.slice B ab.length C,.slice x j.2.length y]) ?_ ?_⟩)))
 exact Bk h (λeH h=>Jy R<|Js<|Oh h<|Jw1 _ ⟨aY,Y,P,R,Jo3,Fct,Fct⟩<|KM R) (λeH h=>Jx R<|Jk3<|Je3 R U96 R Z31<|Jc3 R I31 ((b8.stp<|T4 b0 b1 a4 am).ld 0 R R)<|Jn 1 R<|Ji4 aY 18 [k] R Y31 bG R λff fj _ c2 _ dR=>Tv<|Ob h λcQ eP h=>Jd4 c2 E6 13 [] R Y31 bG R Fct (EV (bO _) dR.rdc) bJ eP R λbc bi _ bH _ _=>Tv<|Je3 R U96 R Z31<|Jz3 bH 12 (off:=0) (vc:=[.slice bc cQ.length bi]) (cs':=[.slice bc cQ.length bi,.slice x j.2.length y]) R Z31 R Fct R λ_ _ dT=>Tv<|Jo<|Oh h<|Jw1 _ ⟨bH,bc,bi,R,Fct,Fct,dT⟩<|KM R)
 rintro _ _ ⟨bF,B,C,rfl,b2,_,dQ⟩
 refine have h:=ed;Jp (Jq<|Xn bF [11,15] [2,8,11,3,12,16] λ_ a5=>Je3 R U96 R Z31<|Jn 1 R<|Ob h λ_ cr h=>Jf R (vl (xs:=([v.1,v.2]:VI)) (p:=⟨b6,0,none⟩) cr R U88 Z2 R R R)<|Jg R (Jd2 I31 R R<|hvC ((b9.stp<|T3 am b2 a5).ld 1 R R) R)<|Jg R (Jd2 I2 R R<|hvC ((ca.stp<|T3 am b2 a5).ldD (xs:=([v.1,v.2]:VI)) 0 R cr R) R)<|Ob h λfz eQ h=>Jw3 R C38 (bT (J:=Mk bF) Gct eQ)<|Kb λeZ aZ b3=>⟨(b3.cl R),Jt1<|Jd<|Ob h λbu h ee=>Jt3 [4,6,7,14,17,18,97,98,99,105,106,107,112,113,114] (λd e a=>∃b aF ax,e=d/\Stp [12,14] aZ eZ b a/\Oc E6 2 b a 14 aF ax bu/\Bc b a 12 aO 96 [.slice B ab.length C,.slice aF bu.length ax]) ?_ ?_⟩)
 exact Bk h (λeI h=>Jy R<|Js<|Oh h<|Jw1 _ ⟨aZ,x,y,R,Jo3,Fct,Fct⟩<|KM R) (λeI h=>Jx R<|Jk3<|Je3 R U96 R Z31<|Jc3 R I31 ((dQ.stp<|a5.tr b3).ld 1 R R)<|Jn 1 R<|Ji4 aZ 20 [k] R Y31 bG R λfb fg _ c4 _ dW=>Tv<|Ob h λcR eR h=>Jd4 c4 E6 14 [] R Y31 bG R Fct (EV (bO _) dW.rdc) bJ eR R λba be _ bI _ _=>Tv<|Je3 R U96 R Z31<|Jz3 bI 12 (off:=1) (vc:=[.slice ba cR.length be]) (cs':=[.slice B ab.length C,.slice ba cR.length be]) R Z31 R Fct R λ_ _ dY=>Tv<|Jo<|Oh h<|Jw1 _ ⟨bI,ba,be,R,Fct,Fct,dY⟩<|KM R)
 rintro _ _ ⟨c3,aF,ax,rfl,_,dU,dV⟩
 refine have h:=ee;Jz (Jp<|Jg3 R ?_)
 have eL:ET .i64 (k+1)=k+1:=wr1 eh (Jn2 aR) bn.len_le
 rw[eL]
 have aR:=Jn2 aR
 cases h
 exact Ja2 ⟨c3,k+1,(ab,bu),B,C,aF,ax,R,Fct,Fct,dU,dV,by omega,by omega,el⟩ R
 rintro _ cK ⟨aW,i,S,V,X,Q,rfl,c9,dJ,dK,dL,rfl⟩
 refine have h:=yI ec;Jp (Jk3<|Je3 R U58 R Z56<|Jc3 R I56 ((b7.stp<|T5 bX bY a2 a3 c9).ld 1 R R)<|Jg4 tv R (Jh4 (haE dL.cells) I96 Z96 R)<|Jb4 aW Pair.ep96 15 [13,14] (parts:=[(0,.tmp 146)]) (cells:=[.slice S i.1.length V,.slice X i.2.length Q]) (xs:=([(⟨i.1,i.2⟩:Pair)]:VP)) R Y56 cN R (Jj4 ⟨[.slice S i.1.length V],[.slice X i.2.length Q],Zl aW cK [13],Zl aW cK [14],R,Zl.sp (l1:=[13]) (l2:=[14]) R,Zl.sr (l1:=[13]) (l2:=[14]),⟨_,_,R,dJ⟩,⟨_,_,R,dK⟩⟩) λfa e6 _ c5 _ dZ=>Tv<|Ob h λbw eS h=>Jd4 c5 Pair.ep96 9 [15] R Y56 cN R Fct dZ.src (c7 R) eS R λbb bh _ bK _ _=>Tv<|Je3 R U58 R Z56<|Jz3 bK 6 (off:=1) (vc:=[.slice bb bw.length bh]) (cs':=[.slice n f.2.2.length m,.slice bb bw.length bh]) R Z56 R Fct R λ_ _ d0=>Tv<|Jo<|Jz<|Jp<|Jg3 R ?_)
 have eK:ET .i64 (s+1)=s+1:=wr1 eg (Jn2 aQ) br.len_le
 rw[eK]
 have aQ:=Jn2 aQ
 cases h
 exact Ja2 ⟨bK,s+1,bw,bb,bh,R,Fct,Fct,d0,by omega,by omega,ek⟩ R
 rintro _ _ ⟨cZ,ae,aI,au,rfl,_,dC,dD,rfl⟩
 refine have h:=yI eb;Jz (Jp<|Jg3 R<|wr2 cm aP bm.len_le ▸ ?_)
 cases h
 exact Ja2 ⟨cZ,u+1,ae,aI,au,R,Fct,dC,dD,nxz cm,nxm aP,ej⟩ R
 rintro _ _ ⟨bA,aT,aD,aq,rfl,_,_,dw,rfl⟩
 exact have h:=yI ea;Jp (Jj3<|Jg4 tv R (Jh4 (haE dw.cells) I58 Z58 R)<|Jm4 bA 4 R Z58 R Fct R λ_ _ d1=>Tv<|Jb 1 R<|Ju<|Jb2 (l:=[.cell 4 58,.tmp 5]) results55 (bM R d1 I58 Z58 R<|Jq2 R R) R<|Oh h<|⟨(λdd=>ren [(7,2),(9,3)]<|bA dd),n,m,aD,aq,R,Fct,Fct,Fct⟩)
theorem uv {p t v q u s}{p0:Parity}(Y:Rd Ri J w 0 p t p0.Arena.Owner) (Z:Rd Rs J w 0 v q p0.Arena.Next) (i:Rd Ri J w 0 u s p0.Prio){r:Bool}(h:np p0=some r):Ret prog 68 [.agg #[.slice p p0.Arena.Owner.length t,.slice v p0.Arena.Next.length q,.slice u p0.Prio.length s]] w (Pvb J w r):=by
 refine Jp3 J func68 R ntmps68 R λaa=>Jj3<|Jx3 J 2 R λ_ _ G I g=>Tv<|Jb 1 R<|Jq<|Jj3<|Je3 R U66 R Z62<|Jg4 tv R (Jh4 (haE<|g.lds 0 2 R) I62 Z62 R)<|Ob h λad T h=>Jw3 R call115 (qx (J:=Mk G) (p0:=p0.Arena) Gct Gct T)<|Kb λX F f=>Tv<|Jn 2 R<|Ob h λU h L=>Jk4 [1] 18 U F X 9 tv ?_ ?_
 exact Bk h (λO h=>Je3 R U66 R Z31 (have x:=g.stp f;Jc3 R I31 (x.ld 2 R R) (Js3 R U31 R R<|Je3 R U66 R Z62<|Je3 R U62 R Z31<|Jc3 R I31 (x.ld 0 R R)<|Js3 R U31 R R<|Jn 2 R<|Oh h<|Jl4 tv R))) (λO h=>Jn 1 R<|Je4 R<|Jn 3 R<|Je4 R<|Jn 3 R<|Oh h<|Jl4 tv R)
 rintro _ D _ ⟨rfl,c,o⟩
 refine have h:=L;Jd ?_
 refine Bk h (λP h=>Jy R<|Js<|Jp<|Jq<|Jj3<|Je3 R U66 R Z31<|Jc3 R I31 ((g.stp<|f.tr o).ld 2 R R)<|Js3 R U31 R R<|Jb 1 R<|Ob h λC N y=>Jx1 (λe j=>∃k,e=[]/\Stp [] c D k j/\C=EW ()) (Jv<|Ju3 [20,21] (λb E e j=>∃k a,e=(22,vi a)::E/\Stp [] c D k j/\0<=a/\ES ((p0.Prio.length:Int)-a)=b/\cntM (jA p0) b a ()=some C) ⟨_,_,⟨c,0,R,Jo3,(by decide),(by simp),N⟩,(KM R)⟩ ?_) ?_) (λP h=>Jx R<|Jf3 R<|Ju<|Jw<|Jb2 (l:=[.tmp 2]) results68 (Jq2 R R) R<|Oh h<|⟨c,R,Fct⟩)
 rintro b _ W ⟨m,a,rfl,K,z,d,h⟩
 rcases b with _|b
 exact Jf3 R<|Jq<|Jx2 R (dcf d)<|Jc1<|Jt<|Jt<|Jb1<|Oh h<|Jw1 _ ⟨m,R,Fct,R⟩ KN
 refine Ob h λab h A=>Jf3 R<|Jq<|Jw2 R (dct d)<|Js<|Jp<|Jq<|Jv<|Jj3<|Ob h λac B h=>Jd3 R i B U31 Z2<|Jc3 R I2 ((i.stp<|T4 I f o K).gInt B)<|Jb 1 R<|Jl3 3 R<|Ob h λV h M=>Jk4 [20,21,22] 31 V m W 3 tv ?_ ?_
 exact Bk h (λQ h=>Jn 3 R<|Oh h<|Jl4 tv R) (λQ h=>Jn 3 R<|Oh h<|Jl4 tv R)
 rintro _ _ _ ⟨rfl,n,_⟩
 refine have h:=M;Jd ?_
 refine Bk h (λS h=>Jy R<|Js<|Jz<|Jp<|Jg3 R<|wr2 z d i.len_le ▸ ?_) (λS h=>Jx R<|Jf3 R<|Ju<|Ja1<|Jw<|Jw ?_)
 cases h
 exact Ja2 ⟨n,a+1,R,Fct,nxz z,nxm d,A⟩ R
 cases h
 obtain rfl:=EU A
 exact have h:=yL y;Ja1 (Jr2<|Jw<|Jb2 (l:=[.tmp 2]) results68 (Jq2 R R) R<|Oh h<|⟨n,R,Fct⟩)
 rintro _ _ ⟨H,rfl,_,rfl⟩
 exact have h:=yI y;Jp (Jf3 R<|Ju<|Jb2 (l:=[.tmp 2]) results68 (Jq2 R R) R<|Oh h<|⟨H,R,Fct⟩)
theorem qC {B A D C}{p0:Arena}{z P}{p1:VI}(aH:Rd Ri J w 0 B A p0.Owner) (aI:Rd Rs J w 0 D C p0.Next) (t:Rd Ri J w 0 z P p1){r:Arena}(h:pm p0 p1=some r):Ret prog 176 [.agg #[.slice B p0.Owner.length A,.slice D p0.Next.length C],.slice z p1.length P] w (λaB a=>∃b L N M O,aB= .agg #[.slice L r.Owner.length N,.slice M r.Next.length O]/\Ent J w b a/\Oc E6 2 b a 2 L N r.Owner/\Oc (ER E6 2) 31 b a 3 M O r.Next):=by
 refine Jp3 J func176 R ntmps176 R λaJ=>Jj3<|Jx3 J 2 R λ_ _ T ab ak=>Tv<|Jy3 T 3 R X62 R λ_ _ W y _=>Tv<|Jd<|Jj3<|Jg4 tv R (Jh4 (haE (ak.stp y).cells) I62 Z62 R)<|Ob h λi aA h=>Jw3 R call202 (tp (J:=Mk W) (p0:=p0) Gct Gct aA) ?_
 rintro _ _ ⟨_,ae,ad,m,n,rfl,ag,ah,ai⟩
 refine Im ag 4 R (λS Y I=>Tv<|Jy3 S 8 R X62 R λ_ _ j Z aj=>Tv<|Jm4 j 8 R Z62 R aj R λQ aa E=>Tv<|Jd<|Jq<|Jl3 1 R<|Js3 R U31 R R<|Jb 1 R<|Ob h λK ax ap=>Jt3 [4,5] (λc e a=>∃b,∃q:VV,e=c/\Stp [7,9] j Q b a/\Oc (ER E6 2) 31 b a 7 m n q/\i.Next.length=q.length/\K=EW q) (Jv<|Ju3 [4,5,10,11] (λf c e a=>∃b d,∃g:VV,e=(12,vi d)::c/\Stp [7,9] j Q b a/\Oc (ER E6 2) 31 b a 7 m n g/\i.Next.length=g.length/\0<=d/\ES ((p1.length:Int)-d)=f/\cntM (ke p1) f d g=some K) ⟨_,_,⟨j,0,i.Next,R,Jo3,((ai.mx (cK (bI _) _) I R (R:4+3=7)).stp Fct),R,(by decide),(by simp),ax⟩,(KM R)⟩ ?_) ?_)
 rintro f _ aC ⟨k,d,g,rfl,x,s,p,F,o,h⟩
 rcases f with _|f
 exact Jf3 R<|Jq<|Jx2 R (dcf o)<|Jc1<|Jt<|Jt<|Jb1<|Oh h<|Jw1 _ ⟨k,g,R,Fct,s,p,R⟩<|KM R
 refine Ob h λaK h ar=>Jf3 R<|Jq<|Jw2 R (dct o)<|Js<|Jp<|Jq<|Jv<|Jl3 1 R<|Ob h λaD G h=>Jd3 R t G U31 Z2<|Jc3 R I2 ((t.stp<|T6 ab y Y Z aa x).gInt G)<|Jb 2 R<|Jf3 R<|Ob h λu h aq=>Jt3 [4,5,10,11,12] (λc e a=>∃b,e=c/\Stp [7,9] k aC b a/\Oc (ER E6 2) 31 b a 7 m n u/\i.Next.length=u.length) ?_ ?_
 exact Bk h (λay h=>Jy R<|Js<|Oh h<|Jw1 _ ⟨k,R,Jo3,s,p⟩<|KM R) (λay h=>Jx R<|Jk3<|Je3 R U62 R Z32<|Jc3 R I32 ((E.stp x).ld 1 R R)<|Jn 2 R<|Ji4 k 9 [aD] R Y31 bG R λaF aG _ V _ am=>Tv<|Ob h λ_ az h=>Jf R (Jg2 s.rdc az U32 Z31 R R p R) (Ob h λaE H h=>Jk1 (J:=V) (E:=(ER E6 2)) 7 [9] R R R R R R R R Z31 R ⟨_,_,R,am⟩ R R Fct H λ_ X _ an=>Tv<|have aw:i.Next.length=aE.length:=p.trans (Ju2 H).2.2.2.symm;Jo (Oh h<|Jw1 _ ⟨X,R,Fct,an,aw⟩<|KM R)))
 rintro _ _ ⟨U,rfl,_,al,av⟩
 refine have h:=aq;Jz (Jp<|Jg3 R<|wr2 F o t.len_le ▸ ?_)
 cases h
 exact Ja2 ⟨U,d+1,u,R,Fct,al,av,nxz F,nxm o,ar⟩ R
 rintro _ _ ⟨v,q,rfl,ac,_,au,rfl⟩
 exact have h:=yI ap;Jp (Jj3<|Jg4 tv R (Jh4 (haE (E.stp ac).cells) I62 Z62 R)<|Jm4 v 3 R Z62 R Fct R λ_ _ ao=>Tv<|Jd<|Ju<|Jb2 (l:=[.cell 4 62]) results176 (bM R ao I62 Z62 R R) R<|Oh h<|⟨(λaf=>ren [(6,2),(7,3)]<|v af),ae,ad,m,n,(by simp only[au]),Fct,(((ah.mx (bI _) I R (R:4+2=6)).stp Fct).map (ren [(6,2),(7,3)]) R R),Fct⟩)
theorem fd {p E}{p0:VI}{q s}{c1_0:VL}{f:Int}{g:Int}{c1_3:Sig}{i:Int}{t u v x y}(j:Rd Ri J w 0 p E p0) (M:Rd Place.rp J w 0 q s c1_0) (N:Bc J w 0 t 67 [.slice q c1_0.length s]) (O:Bc J w 0 u 2 [vi f]) (P:Bc J w 0 v 2 [vi g]) (Q:Bc J w 0 x 28 [vi c1_3.In,vi c1_3.Out]) (S:Bc J w 0 y 2 [vi i]){r:Int}(h:cd p0 c1_0 f g c1_3 i=some r):Ret prog 26 [.slice p p0.length E,.func (.func 27) #[] #[.pointer (some ⟨t,0,none⟩),.pointer (some ⟨u,0,none⟩),.pointer (some ⟨v,0,none⟩),.pointer (some ⟨x,0,none⟩),.pointer (some ⟨y,0,none⟩)]] w (Pvi J w r):=by
 refine Jp3 J func26 R ntmps26 R λT=>Jf3 R<|Jq<|Jl3 1 R<|Js3 R U31 R R<|Jb 1 R<|Ob h λD I z=>Jt3 [1] (λd e k=>∃m,e=d/\Stp [] J w m k/\D=EW ()) (Jv<|Ju3 [0,1,7] (λb d e k=>∃m a,e=(8,vi a)::d/\Stp [] J w m k/\0<=a/\ES ((p0.length:Int)-a)=b/\cntM (cv p0 c1_0 f g c1_3 i) b a ()=some D) ⟨_,_,⟨J,0,R,Jo3,(by decide),(by simp),I⟩,(KM R)⟩ ?_) ?_
 rintro b _ _ ⟨o,a,rfl,G,A,c,h⟩
 rcases b with _|b
 exact Jf3 R<|Jq<|Jx2 R (dcf c)<|Jc1<|Jt<|Jt<|Jb1<|Oh h<|Jw1 _ ⟨o,R,Fct,R⟩<|KM R
 refine Ob h λU h B=>Jf3 R<|Jq<|Jw2 R (dct c)<|Js<|Jp<|Jq<|Jv<|Jf3 R<|Jl3 3 R<|Ob h λ_ C h=>Jd3 R j C U31 Z2<|Jc3 R I2 ((j.stp G).gInt C)<|Ob h λV L h=>WO.callV R R R R R R R R call27 (rB (J:=Mk o) (c3:=c1_3) Gct Fct Fct Fct Fct Fct L) ?_
 rintro _ _ ⟨_,rfl,H⟩
 refine Im H 2 R (λn _ _=>Tv<|Jd ?_)
 refine Bk h (λK h=>Jy R<|Js<|Jz<|Jp<|Jg3 R<|wr2 A c j.len_le ▸ ?_) (λK h=>Jx R<|Jf3 R<|Ju<|Ja1<|Jw<|Jw ?_)
 cases h
 exact Ja2 ⟨n,a+1,R,Fct,nxz A,nxm c,B⟩ R
 cases h
 obtain rfl:=EU B
 exact have h:=yL z;Ja1 (Jr2<|Jw<|Jb2 (l:=[.tmp 4]) V26 (Jq2 R R) R<|Oh h<|⟨n,R,Fct⟩)
 rintro _ _ ⟨F,rfl,_,rfl⟩
 exact have h:=yI z;Jp (Jf3 R<|Ju<|Jb2 (l:=[.tmp 4]) V26 (Jq2 R R) R<|Oh h<|⟨F,R,Fct⟩)
theorem eQ {p0:Sig}  {r:Int}(h:dI p0=some r):Ret prog 88 [.agg #[vi p0.In,vi p0.Out]] w (Pvi J w r):=by
 refine Jp3 J func88 R ntmps88 R λk=>Jj3<|Jx3 J 2 R λ_ _ e _ c=>Tv<|Jb 1 R<|Jq<|Jj3<|Jg4 tv R (Jh4 (haE c.cells) I28 Z28 R)<|Ob h λm j h=>Jw3 R call91 (ic (J:=Mk e) (p0:=p0) j)<|Kb λ_ a f=>Tv<|Jb 1 R ?_
 exact Bk h (λg h=>Jy R<|Js<|Jp<|Jj3<|Je3 R U28 R Z2 (have b:=c.stp f;Jc3 R I2 (b.ld 0 R R) (Je3 R U28 R Z2<|Jc3 R I2 (b.ld 1 R R)<|Jn 1 R<|Ob h λ_ i h=>Jw3 R call94 (eD (J:=Mk a) i)<|Ki λ_ d _=>Tv<|Jb 1 R<|Ju<|Jb2 (l:=[.tmp 2]) results88 (Jq2 R R) R<|Oh h<|⟨d,R,Fct⟩))) (λg h=>Jx R<|Jf3 R<|Ju<|Jw<|Jb2 (l:=[.tmp 2]) results88 (Jq2 R R) R<|Oh h<|⟨a,R,Fct⟩)
theorem nY {a b}{p0:VI}{p1:Int}(i:Rd Ri J w 0 a b p0){r:Bool}(h:nX p0 p1=some r):Ret prog 181 [.slice a p0.length b,vi p1] w (Pvb J w r):=by
 refine Jp3 J func181 R ntmps181 R λj=>Jf3 R<|Jl3 1 R<|Js3 R U31 R R<|Jn 3 R<|Ob h λg h d=>Jk4 [4] 13 g J w 4 tv ?_ ?_
 exact Bk h (λe h=>Jn 2 R<|Je4 R<|Jn 1 R<|Oh h<|Jl4 tv R) (λe h=>Jn 2 R<|Ob h λ_ f h=>Jw3 R call206 (wv (J:=Mk J) Gct f)<|Kb λ_ _ _=>Tv<|Jn 1 R<|Oh h<|Jv1 _ tv ⟨R,_,Fct⟩<|KM R)
 rintro _ _ _ ⟨rfl,c,_⟩
 exact have h:=d;Jb 1 R (Ju<|Jb2 (l:=[.tmp 4]) results181 (Jq2 R R) R<|Oh h<|⟨c,R,Fct⟩)
theorem um {aC aB ay ax}{p0:Det}{aA aE aD az}{p1:Det}{p2:Int}(aN:Rd Rs J w 0 aC aB p0.Next) (cC:Rd Pair.rp J w 0 ay ax p0.Pairs) (aO:Rd Rs J w 0 aA aE p1.Next) (cD:Rd Pair.rp J w 0 aD az p1.Pairs){r:Det×Bool}(h:gr p0 p1 p2=some r):Ret prog 147 [.agg #[.slice aC p0.Next.length aB,.slice ay p0.Pairs.length ax],.agg #[.slice aA p1.Next.length aE,.slice aD p1.Pairs.length az],vi p2] w (λcp a=>∃b a1 a3 a2 a4,cp= .tuple #[.agg #[.slice a1 r.1.Next.length a3,.slice a2 r.1.Pairs.length a4],.bool r.2]/\Ent J w b a/\Oc (ER E6 2) 31 b a 2 a1 a3 r.1.Next/\Oc Pair.ep96 96 b a 3 a2 a4 r.1.Pairs):=by
 refine Jp3 J func147 R ntmps147 R λcE=>Jj3<|Jx3 J 2 R λ_ _ bi av aG=>Tv<|Jx3 bi 3 R λ_ _ bj G aL=>Tv<|Jy3 bj 4 R X58 R λ_ _ a8 m _=>Tv<|Jb 1 R<|Jj3<|Ji4 a8 5 [0,0] R Y31 bG R λbv br _ be n bP=>Tv<|Jb4 be (ER E6 2) 6 [5] (parts:=[(0,.tmp 16)]) (cells:=[.slice bv ([0,0]:VI).length br]) (xs:=([([0,0]:VI)]:VV)) R Y32 bL R (Jj4 ⟨_,_,R,bP⟩) λbp bs _ bh o _=>Tv<|Jb 1 R<|Jj3<|Jf R (Jn4 [.slice none 0 0,.slice none 0 0] R)<|Jy3 bh 7 R X58 R λaF _ C p bU=>Tv<|Jm4 C 7 R Z58 R bU R λa5 q bV=>Tv<|Jd<|Jq<|Jf3 R<|Ob h λaZ cb aQ=>Jt3 [3,4,6,9] (λd f a=>∃b,∃k:VV×Int×VV,∃af aa x v,f=(8,.slice af k.1.length aa)::d/\Stp [6,7,8,9,10,12,13] C a5 b a/\Oc (ER E6 2) 31 b a 6 af aa k.1/\Oc (ER E6 2) 31 b a 8 x v k.2.2/\Bc b a 7 aF 58 [.slice x k.2.2.length v,.slice none 0 0]/\aZ=EW k) (Jv<|Ju3 [2,3,4,6,9] (λe d f a=>∃b,∃c:VV×Int×VV,∃y u K I,f=(8,.slice y c.1.length u)::(10,vi c.2.1)::d/\Stp [6,7,8,9,10,12,13] C a5 b a/\Oc (ER E6 2) 31 b a 6 y u c.1/\Oc (ER E6 2) 31 b a 8 K I c.2.2/\Bc b a 7 aF 58 [.slice K c.2.2.length I,.slice none 0 0]/\bQ (ja p0 p1 p2) e c=some aZ) ⟨_,_,⟨C,((([([0,0]:VI)]:VV):VV),(0:Int),([]:VV)),bp,bs,none,0,R,Jo3,Fct,EY,bV,cb⟩,(KM R)⟩ ?_) ?_
 rintro e _ _ ⟨ao,c,y,u,K,I,rfl,E,bW,bX,aH,h⟩
 rcases e with _|e
 cases h
 refine Ob h λ_ h ai=>Jq<|Jl3 2 R<|Js3 R U32 R R<|Jb 1 R ?_
 refine Bk h (λcf h=>Jy R<|Jc1<|Jt<|Jt ?_) (λcf h=>Jx R<|Js<|Jp<|Jq<|Jv<|Jj3<|Jc4 ao E6 9 R Y31 bG R λbq bw a6 V s bY=>Tv<|Jb 1 R<|Jq<|Jf3 R (Ob h λ_ cd h=>have b4:=hU cd;Ob h λa0 cc b2=>Jt3 [2,3,4,6,9,10] (λd f a=>∃b,∃g:VV×VI,∃Q O M N,f=(8,.slice Q g.1.length O)::(11,.slice M g.2.length N)::d/\Stp [6,9,12,13] V a6 b a/\Oc (ER E6 2) 31 b a 6 Q O g.1/\Oc E6 2 b a 9 M N g.2/\a0=EW g) (Jv<|Ju3 [2,3,4,6,9,10] (λe d f a=>∃b j,∃i:VV×VI,∃A z H S,f=(8,.slice A i.1.length z)::(11,.slice H i.2.length S)::(12,vi j)::d/\Stp [6,9,12,13] V a6 b a/\Oc (ER E6 2) 31 b a 6 A z i.1/\Oc E6 2 b a 9 H S i.2/\0<=j/\ES (p2-j)=e/\cntM (gt p0 p1 c) e j i=some a0) ⟨_,_,⟨V,0,(c.1,([]:VI)),y,u,bq,bw,R,Jo3,Fct,bY,(by decide),(by simp),cc⟩,(KM R)⟩ ?_) ?_))
 cases h
 exact have h:=ai;Jb1 (Oh h<|Jw1 _ ⟨ao,(c.1,c.2.1,c.2.2),y,u,K,I,R,Fct,bW,bX,aH,R⟩<|KM R)
 rintro e _ _ ⟨D,j,i,A,z,H,S,rfl,F,ag,b0,b5,aP,h⟩
 rcases e with _|e
 exact Jq<|Jf3 R<|Jx2 R (dcf aP)<|Jc1<|Jt<|Jt<|Jb1<|Oh h<|Jw1 _ ⟨D,(i.1,i.2),A,z,H,S,R,Fct,ag,b0,R⟩<|KM R
 refine Ob h λcF h b6=>have T:=dct aP;Jq (Jf3 R<|Jw2 R T<|Js<|Jp<|Jq<|Jv<|Jq<|Xn D [0,2,6] [2,8,11,14,32,3,15,20,21,26,27,35,36,41] λ_ t=>Je3 R U58 R Z32<|Jn 2 R<|Ob h λ_ aR h=>Jd3 R ag.rdc aR U32 Z31<|Jn 1 R<|Jg R (Jd2 I32 R R<|hvC ((aG.stp<|T10 G m n o p q E s F t).ld 0 R R) R) ?_)
 have ah:=ag.stp t
 obtain⟨_,_,aI,b7⟩:=ah.rdc.gSl aR
 refine Jg R (Jd2 I31 R R<|hvC b7 R)<|Ob h λ_ aS h=>Jd3 R aI aS U31 Z2<|Jg R (Jd2 I2 R R<|hvC (aI.gInt aS) R)<|Ob h λ_ aT h=>Jd3 R aN aT U32 Z31 ?_
 obtain⟨_,_,aJ,b8⟩:=(aN.stp (T11 av G m n o p q E s F t)).gSl aT
 refine Jg R (Jd2 I31 R R<|hvC b8 R)<|Ob h λaj aU h=>Jd3 R aJ aU U31 Z2<|Jg R (Jd2 I2 R R<|hvC (aJ.gInt aU) R)<|Jn 1 R<|Jt1<|Jd<|Jq<|Xn D [0,3,6] [2,8,11,14,32,3,15,20,21,26,27,35,36,41] λ_ Z=>Je3 R U58 R Z32<|Jn 2 R<|Ob h λ_ aV h=>Jd3 R ah.rdc aV U32 Z31<|Jn 1 R<|Jg R (Jd2 I32 R R<|hvC ((aL.stp<|T10 m n o p q E s F t Z).ld 0 R R) R) ?_
 obtain⟨_,_,aK,b9⟩:=(ah.stp Z).rdc.gSl aV
 refine Jg R (Jd2 I31 R R<|hvC b9 R)<|Ob h λ_ aW h=>Jd3 R aK aW U31 Z2<|Jg R (Jd2 I2 R R<|hvC (aK.gInt aW) R)<|Ob h λ_ aX h=>Jd3 R aO aX U32 Z31 ?_
 obtain⟨_,_,aM,ca⟩:=(aO.stp (T12 av G m n o p q E s F t Z)).gSl aX
 refine Jg R (Jd2 I31 R R<|hvC ca R)<|Ob h λak aY h=>Jd3 R aM aY U31 Z2<|Jg R (Jd2 I2 R R<|hvC (aM.gInt aY) R)<|Jn 1 R<|Jt1<|Jd<|Jl3 3 R<|Ob h λcG ci h=>Jw3 R call45 (p6 (J:=Mk D) Gct ci)<|Ki λcq X _=>Tv<|Jb 1 R<|Jq<|Jf3 R<|Ob h λB h b3=>Jt3 [2,3,4,6,9,10,11,12] (λd f a=>∃b L P,f=(8,.slice L B.1.length P)::(15,vi B.2)::d/\Stp [6,12,13] X cq b a/\Oc (ER E6 2) 31 b a 6 L P B.1) ?_ ?_
 exact Bk h (λcg h=>Jy R<|Js<|Oh h<|Jw1 _ ⟨X,A,z,R,Jo3,Fct⟩<|KM R) (λcg h=>Jx R<|Jl3 1 R<|Js3 R U32 R R<|Jb 1 R<|Jm3 3 R<|Ji4 X 12 [aj,ak] R Y31 bG R λbo bA _ bl _ b1=>Tv<|Jb4 bl (ER E6 2) 13 [12] (parts:=[(0,.tmp 68)]) (cells:=[.slice bo ([aj,ak]:VI).length bA]) (xs:=([([aj,ak]:VI)]:VV)) R Y32 bL R (Jj4 ⟨_,_,R,b1⟩) λcx cB _ a9 _ bC=>Tv<|Ob h λ_ cj h=>Jd4 a9 (ER E6 2) 6 [13] R Y32 bL R Fct bC.src (c7 R) cj R λbz bu _ ba _ bD=>Tv<|Jc 1 R<|Oh h<|Jw1 _ ⟨ba,bz,bu,R,Fct,bD⟩<|KM R)
 rintro _ _ ⟨bk,L,P,rfl,_,_⟩
 refine have h:=b3;Jp (Jm3 2 R<|Ji4 bk 12 [B.2] R Y31 bG R λct cz _ bb _ bE=>Tv<|Ob h λcr ck h=>Jd4 bb E6 9 [] R Y31 bG R Fct (EV (bO _) bE.rdc) bJ ck R λbx bt _ bc _ bF=>Tv<|Jc 1 R<|Jz<|Jp<|Jg3 R ?_)
 have ch:ET .i64 (j+1)=j+1:=wr1 b5 (Jn2 T) b4
 rw[ch]
 have T:=Jn2 T
 cases h
 exact Ja2 ⟨bc,j+1,(B.1,cr),L,P,bx,bt,R,Fct,Fct,bF,by omega,by omega,b6⟩ R
 rintro _ _ ⟨W,g,Q,O,M,N,rfl,bn,_,bZ,rfl⟩
 refine have h:=yI b2;Jp (Jq<|Jl3 1 R<|Js3 R U32 R R<|Jb 1 R ?_)
 refine Bk h (λce h=>Jy R<|Js<|Jp<|Jk3<|Je3 R U58 R Z32<|Jc3 R I32 ((aH.stp<|s.tr bn).ld 0 R R)<|Jn 1 R<|Jb4 W (ER E6 2) 10 [9] (parts:=[(0,.tmp 81)]) (cells:=[.slice M g.2.length N]) (xs:=([g.2]:VV)) R Y32 bL R (Jj4 ⟨_,_,R,bZ⟩) λcw cA _ bd _ bI=>Tv<|Ob h λal cl h=>Jd4 bd (ER E6 2) 8 [10] R Y32 bL R Fct bI.src (c7 R) cl R λab ae _ am _ _=>Tv<|Je3 R U58 R Z32<|Jz3 am 7 (off:=0) (vc:=[.slice ab al.length ae]) (cs':=[.slice ab al.length ae,.slice none 0 0]) R Z32 R Fct R λ_ _ bK=>Tv<|Jo<|Jz<|Jp<|Jg3 R ?_) (λce h=>Jx R<|Jj3<|Jf R (Jn4 [.slice none 0 0,.slice none 0 0] R)<|Jm4 W 4 R Z58 R Fct R λ_ _ bH=>Tv<|Jb 1 R<|Ju<|Jw<|Ja1<|Jw<|Jw ?_)
 cases h
 exact Ja2 ⟨am,(g.1,((ET .i64<|c.2.1+1):Int),al),Q,O,ab,ae,R,Fct,Fct,Fct,bK,ai⟩ R
 cases h
 obtain rfl:=EU ai
 exact have h:=yL aQ;Ja1 (Jr2<|Jw<|Jb2 (l:=[.cell 6 58,.tmp 7]) results147 (bM R bH I58 Z58 R<|Jq2 R R) R<|Oh h<|⟨W,none,0,none,0,R,Fct,EY,EY⟩)
 rintro _ _ ⟨an,k,af,aa,x,v,rfl,aw,_,_,_,rfl⟩
 exact have h:=yI aQ;Jp (Jq<|Xn an [2,3] [2,8,14,20,3,15,10,22,25,29,31] λ_ ap=>Je3 R U58 R Z56<|Jn 1 R<|Je3 R U58 R Z56<|Jn 1 R<|Jg R (Jd2 I56 R R<|hvC ((aG.stp<|T8 G m n o p q aw ap).ld 1 R R) R)<|Jg R (Jd2 I56 R R<|hvC ((aL.stp<|T7 m n o p q aw ap).ld 1 R R) R)<|Ob h λ_ cm h=>Jw3 R call48 (mL (J:=Mk an) Gct Gct cm)<|Ks 11 Pair.no96 λcy cu _ bf aq bN=>⟨(aq.cl R),Ob h λ_ cn h=>Jw3 R call48 (mL (J:=Mk bf) Gct Gct cn) (Ks 14 Pair.no96 λcs cv _ bg ar bR=>have Y:=(aq.tr ar);⟨(Y.cl R),Ob h λa7 co h=>Jm1 (J:=bg) (E:=Pair.ep96) 11 [14] R R R R R R R R R Y56 cN R R R R (bN.stp ar) bR.src (c7 R) co R λac ad _ U au _=>⟨((Y.tr au).cl R),Je3 R U58 R Z56<|Jz3 U 7 (off:=1) (vc:=[.slice ac a7.length ad]) (cs':=[.slice x k.2.2.length v,.slice ac a7.length ad]) R Z56 R Fct R λ_ bm bS=>⟨((T3 Y au bm).cl R),Jt1<|Jd<|Jj3<|Jg4 tv R (Jh4 (haE bS.cells) I58 Z58 R)<|Jm4 U 4 R Z58 R Fct R λ_ _ bT=>Tv<|Jb 1 R<|Ju<|Jb2 (l:=[.cell 6 58,.tmp 7]) results147 (bM R bT I58 Z58 R<|Jq2 R R) R<|Oh h<|⟨(λbB=>ren [(8,2),(11,3)]<|U bB),x,v,ac,ad,R,Fct,Fct,Fct⟩⟩⟩⟩)⟩)
theorem mH {p0:Sig}{p1:Int}{p2:Int}  {r:Int}(h:gl p0 p1 p2=some r):Ret prog 44 [.agg #[vi p0.In,vi p0.Out],vi p1,vi p2] w (Pvi J w r):=by
 refine Jp3 J func44 R ntmps44 R λE=>Jj3<|Jx3 J 2 R λ_ _ i _ a=>Tv<|Jb 1 R<|Jq<|Jj3<|Jg4 tv R (Jh4 (haE a.cells) I28 Z28 R)<|Ob h λF z h=>Jw3 R call91 (ic (J:=Mk i) (p0:=p0) z)<|Kb λD e b=>Tv<|Jn 2 R<|Ob h λA h n=>Jk4 [1,2,3] 18 A e D 8 tv ?_ ?_
 exact Bk h (λp h=>Jn 1 R<|Je3 R U28 R Z2<|Jc3 R I2 ((a.stp b).ld 0 R R)<|Ob h λ_ t h=>Jw3 R call94 (eD (J:=Mk e) t)<|Ki λ_ g _=>Tv<|Jn 1 R<|Ob h λ_ u h=>Jw3 R C92 (dB (J:=Mk g) u)<|Kb λ_ _ _=>Tv<|Jn 2 R<|Oh h<|Jv1 _ tv ⟨R,_,Fct⟩<|KM R) (λp h=>Jn 2 R<|Je4 R<|Je4 R<|Jn 1 R<|Je4 R<|Jn 2 R<|Oh h<|Jl4 tv R)
 rintro _ C _ ⟨rfl,c,f⟩
 refine Jn 1 R<|Ob n λB h o=>Jk4 [1,2,3] 27 B c C 8 tv ?_ ?_
 exact Bk h (λq h=>Jn 1 R<|Je3 R U28 R Z2<|Jc3 R I2 ((a.stp<|b.tr f).ld 1 R R)<|Ob h λ_ v h=>Jw3 R call94 (eD (J:=Mk c) v)<|Ki λ_ j _=>Tv<|Jn 1 R<|Ob h λ_ x h=>Jw3 R C92 (dB (J:=Mk j) x)<|Kb λ_ _ _=>Tv<|Jn 2 R<|Oh h<|Jv1 _ tv ⟨R,_,Fct⟩<|KM R) (λq h=>Jn 2 R<|Je4 R<|Je4 R<|Jn 1 R<|Je4 R<|Jn 2 R<|Oh h<|Jl4 tv R)
 rintro _ _ _ ⟨rfl,d,m⟩
 refine have h:=o;Jd ?_
 exact Bk h (λs h=>Jy R<|Js<|Jp<|Jl3 1 R<|Je3 R U28 R Z2<|Jc3 R I2 ((a.stp<|T3 b f m).ld 0 R R)<|Ob h λ_ y h=>Jw3 R call94 (eD (J:=Mk d) y)<|Ki λ_ k _=>Tv<|Jb 4 R<|Ju<|Jb2 (l:=[.tmp 6]) results44 (Jq2 R R) R<|Oh h<|⟨k,R,Fct⟩) (λs h=>Jx R<|Jf3 R<|Ju<|Jw<|Jb2 (l:=[.tmp 6]) results44 (Jq2 R R) R<|Oh h<|⟨d,R,Fct⟩)
theorem uk {A y C B}{p0:Clause}{D z E x}{p1:Word}{v O}{p2:VI}(ai:Rd Ri J w 0 A y p0.A) (aj:Rd Ri J w 0 C B p0.B) (ak:Rd Ri J w 0 D z p1.Stem) (al:Rd Ri J w 0 E x p1.Loop) (j:Rd Ri J w 0 v O p2){r:Bool}(h:mo p0 p1 p2=some r):Ret prog 138 [.agg #[vi p0.Kind,.slice A p0.A.length y,.slice C p0.B.length B],.agg #[.slice D p1.Stem.length z,.slice E p1.Loop.length x],.slice v p2.length O] w (Pvb J w r):=by
 refine Jp3 J func138 R ntmps138 R λam=>Jj3<|Jx3 J 2 R λ_ _ S V W=>Tv<|Jx3 S 3 R λ_ _ U u X=>Tv<|Jb 1 R<|Jq<|Jj3<|Je3 R U44 R Z31<|Jc3 R I31 (X.ld 1 R R)<|Je3 R U54 R Z31 (have G:=W.stp u;Jc3 R I31 (G.ld 2 R R) (Ob h λao ad h=>Jw3 R call139 (gG (J:=Mk U) Gct Gct ad)<|Kb λP d p=>Tv<|Jd ?_))
 refine Bk h (λaa h=>Jy R<|Js<|Jp<|Jq<|Jf3 R<|Ob h λN Z H=>Jx1 (λg k=>∃m,g=[]/\Stp [] d P m k/\N=EW ()) (Jv<|Ju3 [2,3] (λc Q g k=>∃m b,g=(7,vi b)::Q/\Stp [] d P m k/\0<=b/\ES ((p2.length:Int)-b)=c/\cntM (i9 p0 p2) c b ()=some N) ⟨_,_,⟨d,0,R,Jo3,(by decide),(by simp),Z⟩,(KM R)⟩ ?_) ?_) (λaa h=>Jx R<|Jf3 R<|Ju<|Jw<|Jb2 (l:=[.tmp 6]) results138 (Jq2 R R) R<|Oh h<|⟨d,R,Fct⟩)
 rintro c _ _ ⟨f,b,rfl,q,I,e,h⟩
 rcases c with _|c
 exact Jq<|Jl3 2 R<|Js3 R U31 R R<|Jb 1 R<|Jx2 R (dcf e)<|Jc1<|Jt<|Jt<|Jb1<|Oh h<|Jw1 _ ⟨f,R,Fct,R⟩ KN
 refine Ob h λan h K=>Jq<|Jl3 2 R<|Js3 R U31 R R<|Jb 1 R<|Jw2 R (dct e)<|Js<|Jp<|Jq<|Jv<|Jq<|Xn f [0,2] [2,8,11,14,3,15,19,23,26,29,32,35,36,40,44,47] λ_ s=>Je3 R U54 R Z31<|Jn 2 R<|Ob h λ_ L h=>Jd3 R j L U31 Z2 (have F:=G.stp (T3 p q s);Jg R (Jd2 I31 R R<|hvC (F.ld 1 R R) R) (have i:=j.stp (T5 V u p q s);Jg R (Jd2 I2 R R<|hvC (i.gInt L) R) (Ob h λap ae h=>Jw3 R C99 (dP (J:=Mk f) Gct ae)<|Kb λah n a=>⟨(a.cl R),Jn 1 R<|Ob h λag h Y=>Jk4 [2,3,7] 34 ag n ah 8 (a.cl R) ?_ ?_⟩)))
 exact Bk h (λab h=>Jn 4 R<|Jf4 R<|Je4 R<|Jn 2 R<|Oh h<|Jv1 _ (a.cl R) ⟨R,_,Jo3⟩<|KM R) (λab h=>Jn 2 R<|Ob h λ_ M h=>Jf R (iQ (k1:= .i64) (k2:= .i64) U31 Z2 (.inr ⟨_,R,R⟩) (.inl ⟨R,R⟩) M i.1 R R R)<|Je3 R U54 R Z31<|Jg R (Jd2 I31 R R<|hvC (F.ld 2 R R) R)<|Ob h λ_ af h=>Jw3 R call139 (gG (J:=Mk n) (Jn3 ((i.stp a).sub M)) Gct af)<|Kb λ_ _ t=>⟨((a.tr t).cl R),Jn 2 R<|Oh h<|Jv1 _ ((a.tr t).cl R) ⟨R,_,Fct⟩<|KM R⟩)
 rintro _ _ _ ⟨rfl,o,_⟩
 refine have h:=Y;Jt1 (Jd ?_)
 refine Bk h (λac h=>Jy R<|Js<|Jz<|Jp<|Jg3 R<|wr2 I e j.len_le ▸ ?_) (λac h=>Jx R<|Jf3 R<|Ju<|Ja1<|Jw<|Jw ?_)
 cases h
 exact Ja2 ⟨o,b+1,R,Fct,nxz I,nxm e,K⟩ R
 cases h
 obtain rfl:=EU K
 exact have h:=yL H;Ja1 (Jr2<|Jw<|Jb2 (l:=[.tmp 6]) results138 (Jq2 R R) R<|Oh h<|⟨o,R,Fct⟩)
 rintro _ _ ⟨T,rfl,_,rfl⟩
 exact have h:=yI H;Jp (Jf3 R<|Ju<|Jb2 (l:=[.tmp 6]) results138 (Jq2 R R) R<|Oh h<|⟨T,R,Fct⟩)
theorem wd {p0:Sig}{L I M K}{p1:Rival}(aJ:Rd Ri J w 0 L I p1.In) (v:Rd Rs J w 0 M K p1.Next){r:Bool}(h:pE p0 p1=some r):Ret prog 42 [.agg #[vi p0.In,vi p0.Out],.agg #[.slice L p1.In.length I,.slice M p1.Next.length K]] w (Pvb J w r):=by
 refine Jp3 J func42 R ntmps42 R λaK=>Jj3<|Jx3 J 2 R λ_ _ Z ad ae=>Tv<|Jx3 Z 3 R λ_ _ B G g=>Tv<|Jb 1 R<|Jj3<|Je3 R U34 R Z31<|Jc3 R I31 (g.ld 0 R R)<|Js3 R U31 R R<|Jb 1 R<|Jq<|Jq (Js1 (J:=B) [2,3] none [(0,0),(1,1),(2,2),(3,2),(4,2),(5,1),(6,2),(7,2),(8,2),(9,2),(12,2),(10,0),(11,2),(13,0),(14,2),(15,2),(16,2),(17,2),(18,2),(19,0),(20,0),(21,1),(22,1),(23,2),(24,2)] [] (by kernel_rfl) (by kernel_rfl) λ_ d=>have t:=ae.stp (G.tr d);Jg R (Jh4 (haC t.cells R) I28 Z28 R) (Ob h λaM av h=>Jw3 R call91 (ic (J:=Mk B) (p0:=p0) av)<|Kb λaF z a=>⟨(a.cl R),Jn 2 R<|Ob h λaB h af=>Jk4 [2,3,5] 17 aB z aF 4 (a.cl R) ?_ ?_⟩))
 exact Bk h (λao h=>Jn 1 R<|Ob h λ_ aw h=>Jw3 R C92 (dB (J:=Mk z) aw)<|Kb λ_ _ E=>⟨((a.tr E).cl R),Jn 2 R<|Oh h<|Jv1 _ ((a.tr E).cl R) ⟨R,_,Fct⟩<|KM R⟩) (λao h=>Jn 1 R<|Je4 R<|Jn 2 R<|Oh h<|Jv1 _ (a.cl R) ⟨R,_,Jo3⟩<|KM R)
 rintro _ aG _ ⟨rfl,aa,b⟩
 refine Jn 1 R<|Ob af λaC h ag=>Jk4 [2,3,5] 26 aC aa aG 8 ((a.tr b).cl R) ?_ ?_
 exact Bk h (λap h=>Je3 R U34 R Z32<|Je3 R U34 R Z31 (have N:=g.stp d;Jg R (Jd2 I32 R R<|hvC (N.ld 1 R R) R) (Js3 R U32 R R<|Jg R (Jd2 I31 R R<|hvC (N.ld 0 R R) R)<|Js3 R U31 R R<|Jn 2 R<|Oh h<|Jv1 _ ((a.tr b).cl R) ⟨R,_,Jo3⟩<|KM R))) (λap h=>Jn 2 R<|Jf4 R<|Jn 1 R<|Jf4 R<|Jn 3 R<|Oh h<|Jv1 _ ((a.tr b).cl R) ⟨R,_,Jo3⟩<|KM R)
 rintro _ aH _ ⟨rfl,A,c⟩
 refine Jn 1 R<|Ob ag λaD h ah=>Jk4 [2,3,5] 34 aD A aH 7 ((T3 a b c).cl R) ?_ ?_
 exact Bk h (λaq h=>Je3 R U34 R Z31<|Jg R (Jd2 I31 R R<|hvC ((g.stp d).ld 0 R R) R)<|Jg R (Jh4 (haC t.cells R) I28 Z28 R)<|Ob h λ_ ax h=>Jw3 R call77 (lB (J:=Mk A) (p0:=p0) ax)<|Ki λ_ ab q=>⟨((T4 a b c q).cl R),Ob h λ_ ay h=>Jw3 R call93 (gX (J:=Mk ab) Gct ay)<|Kb λ_ _ F=>⟨((T5 a b c q F).cl R),Jn 2 R<|Oh h<|Jv1 _ ((T5 a b c q F).cl R) ⟨R,_,Fct⟩<|KM R⟩⟩) (λaq h=>Jn 1 R<|Jf4 R<|Jf4 R<|Je4 R<|Je4 R<|Jn 2 R<|Oh h<|Jv1 _ ((T3 a b c).cl R) ⟨R,_,Jo3⟩<|KM R)
 rintro _ X _ ⟨rfl,j,k⟩
 refine have h:=ah;Jt1 (Jd ?_)
 refine Bk h (λar h=>Jy R<|Js<|Jp<|Jq<|Jf3 R<|Ob h λW am Q=>Jx1 (λp x=>∃y,p=[]/\Stp [] j X y x/\W=EW ()) (Jv<|Ju3 [2,3,5] (λi Y p x=>∃y e,p=(6,vi e)::Y/\Stp [] j X y x/\0<=e/\ES ((p1.Next.length:Int)-e)=i/\cntM (kA p0 p1) i e ()=some W) ⟨_,_,⟨j,0,R,Jo3,(by decide),(by simp),am⟩,(KM R)⟩ ?_) ?_) (λar h=>Jx R<|Jf3 R<|Ju<|Jw<|Jb2 (l:=[.tmp 4]) results42 (Jq2 R R) R<|Oh h<|⟨j,R,Fct⟩)
 rintro i _ _ ⟨o,e,rfl,m,S,n,h⟩
 rcases i with _|i
 exact Jq<|Jl3 1 R<|Je3 R U34 R Z32<|Jc3 R I32 ((g.stp<|T6 d a b c k m).ld 1 R R)<|Js3 R U32 R R<|Jb 1 R<|Jx2 R (dcf n)<|Jc1<|Jt<|Jt<|Jb1<|Oh h<|Jw1 _ ⟨o,R,Fct,R⟩ KN
 refine Ob h λaL h T=>have aj:=dct n;Jq (Jl3 1 R<|Je3 R U34 R Z32 (have O:=g.stp (T6 d a b c k m);Jc3 R I32 (O.ld 1 R R) (Js3 R U32 R R<|Jb 1 R<|Jw2 R aj<|Js<|Jp<|Jq<|Jv<|Jq<|Js1 (J:=o) [0,2,3] none [(0,2),(2,2),(1,0),(3,2),(4,0),(5,2),(6,0),(7,1),(8,2),(9,2),(10,2),(12,2),(15,2),(11,0),(13,2),(14,0),(16,1),(17,2),(18,2)] [] (by kernel_rfl) (by kernel_rfl) λ_ s=>Je3 R U34 R Z32<|Jn 1 R (have P:=O.stp s;Jg R (Jd2 I32 R R<|hvC (P.ld 1 R R) R) (Ob h λaN U h=>Jd3 R v U U32 Z31 ?_)))))
 have u:=v.stp (T9 ad G d a b c k m s)
 obtain⟨_,_,_,ak⟩:=u.gSl U
 refine Jg R (Jd2 I31 R R<|hvC ak R)<|Js3 R U31 R R<|Jg R (Jh4 (haC (t.stp<|T6 a b c k m s).cells R) I28 Z28 R)<|Ob h λaO az h=>Jw3 R call43 (ka (J:=Mk o) (p0:=p0) az)<|Ki λaI C f=>⟨(f.cl R),Jn 2 R<|Ob h λaE h ai=>Jk4 [2,3,5,6] 60 aE C aI 9 (f.cl R) ?_ ?_⟩
 refine Bk h (λau h=>Je3 R U34 R Z32<|Jn 2 R<|Jg R (Jd2 I32 R R<|hvC (P.ld 1 R R) R)<|Ob h λ_ V h=>Jd3 R u V U32 Z31 ?_) (λau h=>Jn 3 R<|Jf4 R<|Jn 1 R<|Jf4 R<|Je4 R<|Jn 2 R<|Oh h<|Jv1 _ (f.cl R) ⟨R,_,Jo3⟩<|KM R)
 obtain⟨_,_,_,al⟩:=u.gSl V
 exact Jg R (Jd2 I31 R R<|hvC al R)<|Ob h λ_ aA h=>Jw3 R call93 (gX (J:=Mk C) Gct aA)<|Kb λ_ _ H=>⟨((f.tr H).cl R),Jn 2 R<|Oh h<|Jv1 _ ((f.tr H).cl R) ⟨R,_,Fct⟩<|KM R⟩
 rintro _ _ _ ⟨rfl,D,_⟩
 refine have h:=ai;Jt1 (Jd ?_)
 refine Bk h (λan h=>Jy R<|Js<|Jz<|Jp<|Jg3 R<|wr2 S n v.len_le ▸ ?_) (λan h=>Jx R<|Jf3 R<|Ju<|Ja1<|Jw<|Jw ?_)
 cases h
 exact Ja2 ⟨D,e+1,R,Fct,nxz S,nxm n,T⟩ R
 cases h
 obtain rfl:=EU T
 exact have h:=yL Q;Ja1 (Jr2<|Jw<|Jb2 (l:=[.tmp 4]) results42 (Jq2 R R) R<|Oh h<|⟨D,R,Fct⟩)
 rintro _ _ ⟨ac,rfl,_,rfl⟩
 exact have h:=yI Q;Jp (Jf3 R<|Ju<|Jb2 (l:=[.tmp 4]) results42 (Jq2 R R) R<|Oh h<|⟨ac,R,Fct⟩)
end
end Go.Proofs.YtfombamjdkihnaaGreat
