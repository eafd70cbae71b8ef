/- The walks, part 5. By program. -/
import Derived.Test.YtldlmopdhmaceaaGreatDoorFns2BE
import Derived.Test.YtldlmopdhmaceaaGreatDoorFns3BE
set_option linter.unusedVariables false
set_option linter.unusedSimpArgs false
open Go.Wk.Ep renaming own → FU, pair → F0
open Int renaming toNat → FV
open Go.IntKind renaming wrap → FW
open Go.Wk.Ow renaming nil → FZ
open Go.Wk.Sl renaming srcP → FY
open Sum renaming inr → FX
namespace Go.Proofs.YtldlmopdhmaceaaGreatDoor
open Tryz
open Go Go.Wk Go.Proofs
set_option maxRecDepth 100000
set_option maxHeartbeats 1000000
section
variable {w:World}{J:Col}
theorem nK {a b}{p0:VI}{p1:Int}(i:Rd Ri J w 0 a b p0){r:Bool}(h:nJ p0 p1=some r):Ret prog 27 [.slice a p0.length b,vi p1] w (Pvb J w r):=by
 refine Jp3 J func27 R ntmps27 R λj=>Jf3 R<|Jl3 1 R<|Js3 R U30 R R<|Jn 3 R<|Ob h λg h d=>Jk4 [4] 13 g J w 4 tv ?_ ?_
 exact Bk h (λe h=>Jn 2 R<|Je4 R<|Jn 1 R<|Oh h<|Jl4 tv R) (λe h=>Jn 2 R<|Ob h λ_ f h=>Jw3 R call48 (wS (J:=Mk J) Gct f)<|Kb λ_ _ _=>Tv<|Jn 1 R<|Oh h<|Jv1 _ tv ⟨R,_,Fct⟩<|KM R)
 rintro _ _ _ ⟨rfl,c,_⟩
 exact have h:=d;Jb 1 R (Ju<|Jb2 (l:=[.tmp 4]) results27 (Jq2 R R) R<|Oh h<|⟨c,R,Fct⟩)
theorem sD {p0:ByteArray}(aM:Rd Rp.str J w 0 (some ⟨1,0,none⟩) 7 lV) (aN:Vm 2 J w){r:Clause×Bool}(h:gG p0=some r):Ret prog 54 [.string p0] w (λbh a=>∃b af ah ag ai,bh= .tuple #[.agg #[vi r.1.Kind,.slice af r.1.A.length ah,.slice ag r.1.B.length ai],.bool r.2]/\Ent J w b a/\Oc E6 2 b a 2 af ah r.1.A/\Oc E6 2 b a 3 ag ai r.1.B):=by
 refine Jp3 J func54 R ntmps54 R λbs=>Jj3<|Jy3 J 2 R X32 R λ_ _ an Q _=>Tv<|Jb 1 R<|Jl3 1 R (Ob h λbo a4 h=>have W:=aN.stp Q;Jw3 R call18 (g7 (J:=Mk an) (W.map (mp [] 0) R R) a4) ?_)
 rintro _ _ ⟨_,bq,bp,rfl,az,aK⟩
 refine Im az 3 R (λal O ba=>Tv<|have x:=aK.mx rM ba R (R:3+2=5);Jb 1 R (Jj3<|Jf R (Jn4 [vi 0,.slice none 0 0,.slice none 0 0] R)<|Jy3 al 6 R X32 R λv _ o q aD=>Tv<|Jm4 o 6 R Z32 R aD R λaj s aE=>Tv<|Jd<|Jq<|Jj3<|Jg4 tv R (Jh4 (haE (aM.stp<|T4 Q O q s).cellsS) isAgg136 sizeOf136 R)<|Jb 1 R<|Ob h λad aV aQ=>Jt3 [2,4,5] (λc d a=>∃b f,d=c/\Stp [6] o aj b a/\Bc b a 6 v 32 [vi f,.slice none 0 0,.slice none 0 0]/\ad=FX f) (Jv<|Ju3 [2,4,5,16] (λk c d a=>∃b e A,d=(17,vi e)::c/\Stp [6] o aj b a/\Bc b a 6 v 32 [vi A,.slice none 0 0,.slice none 0 0]/\0<=e/\FV (7-e)=k/\cntM (nW bo) k e A=some ad) ⟨_,_,⟨o,0,(0:Int),R,Jo3,aE,(by decide),(by simp),aV⟩,(KM R)⟩ ?_) ?_))
 rintro k _ bj ⟨g,e,A,rfl,aw,I,Z,y,h⟩
 rcases k with _|k
 exact Jf3 R<|Jq<|Jx2 R (dcf y)<|Jc1<|Jt<|Jt<|Jb1<|Oh h<|Jw1 _ ⟨g,A,R,Fct,I,R⟩<|KM R
 refine Ob h λbt h L=>Jf3 R<|Jq<|Jw2 R (dct y)<|Js<|Jp<|Jq<|Jv<|Jl3 1 R<|Ob h λbu a5 h=>Jf R (zj (xs:=lV) runUnderlying136 I9 Z9 R a5 R R R)<|Jb 2 R<|Jl3 1 R<|Ob h λbv aa h=>Jd3 R x.rdc aa U33 Z9<|Jc3 R I9 ((x.stp<|T3 q s aw).rdc.gStr aa)<|Jn 1 R<|Jf R (cR R R R)<|Jd<|Ob h λae h aR=>Jt3 [2,4,5,16,17] (λc d a=>∃b,d=c/\Stp [6] g bj b a/\Bc b a 6 v 32 [vi ae,.slice none 0 0,.slice none 0 0]) ?_ ?_
 exact Bk h (λaZ h=>Jy R<|Js<|Oh h<|Jw1 _ ⟨g,R,Jo3,I⟩<|KM R) (λaZ h=>Jx R<|Jm3 2 R<|Je3 R U32 R Z2<|Jz3 g 6 (off:=0) (vc:=[vi<|FW .i64<|e+1]) (cs':=[vi (FW .i64<|e+1),.slice none 0 0,.slice none 0 0]) R Z2 R I R λ_ _ aG=>Tv<|Jo<|Oh h<|Jw1 _ ⟨g,R,Fct,aG⟩<|KM R)
 rintro _ _ ⟨ap,rfl,_,aF⟩
 exact have h:=aR;Jz (Jp<|Jg3 R<|wr2 Z y (by decide) ▸ (Ou h L (λL=>Ja2 ⟨ap,e+1,ae,R,Fct,aF,nxz Z,nxm y,L⟩ R)))
 rintro _ _ ⟨ao,f,rfl,P,V,rfl⟩
 refine have h:=yI aQ;Jp (Jf3 R<|Jq<|Jj3<|Je3 R U32 R Z2<|Jc3 R I2 (V.ld 0 R R)<|Ob h λbw a6 h=>Jw3 R call102 (oq (J:=Mk ao) a6)<|Kb λbk B D=>Tv<|Jd<|Ob h λbg h aS=>Jt3 [2,4,5] (λc d a=>∃b,d=(8,vi bg)::c/\Stp [] B bk b a) ?_ ?_)
 exact Bk h (λa0 h=>Jy R<|Js<|Oh h<|Jw1 _ ⟨B,R,Jo3⟩<|KM R) (λa0 h=>Jx R<|Jg3 R<|Oh h<|Jw1 _ ⟨B,R,Jo3⟩<|KM R)
 rintro _ bl ⟨aq,rfl,E⟩
 refine have h:=aS;Jp (Jq<|Jj3<|Je3 R U32 R Z2<|Jc3 R I2 ((V.stp<|D.tr E).ld 0 R R)<|Jn 2 R<|Ob h λbd h aT=>Jk4 [2,4,5,8] 41 bd aq bl 5 tv ?_ ?_)
 exact Bk h (λa1 h=>Jn 1 R<|Js3 R U33 R R<|Jn 3 R<|Oh h<|Jl4 tv R) (λa1 h=>Jn 5 R<|Oh h<|Jl4 tv R)
 rintro _ _ _ ⟨rfl,C,S⟩
 refine have h:=aT;Jd ?_
 refine Bk h (λa2 h=>Jy R<|Js<|Jp<|Jl3 1 R<|Ob h λ_ ab h=>Jd3 R x.rdc ab U33 Z9 (have K:=x.stp (T6 q s P D E S);Jc3 R I9 (K.rdc.gStr ab) (Ob h λm a7 h=>have X:=W.stp (T7 O q s P D E S);Jw3 R call78 (mJ (J:=Mk C) (X.map (mp [] 0) R R) a7) ?_))) (λa2 h=>Jx R<|Jj3<|Jf R (Jn4 [vi 0,.slice none 0 0,.slice none 0 0] R)<|Jm4 C 2 R Z32 R Fct R λ_ _ aH=>Tv<|Jb 1 R<|Ju<|Jw<|Jb2 (l:=[.cell 2 32,.tmp 3]) results54 (cc R aH I32 Z32 R<|Jq2 R R) R<|Oh h<|⟨C,none,0,none,0,R,Fct,FZ,FZ⟩)
 rintro _ _ ⟨_,i,j,rfl,ay,aI⟩
 refine Im ay 9 R (λp T bb=>Tv<|have br:=aI.mx (bW _) bb R (R:9+2=11);Jb 5 R (Jl3 1 R<|Je3 R U32 R Z30<|Jz3 p 6 (off:=1) (vc:=[.slice i m.1.length j]) (cs':=[vi f,.slice i m.1.length j,.slice none 0 0]) R Z30 R Fct R λbm U aJ=>Tv<|Jd<|Jq<|Jf3 R<|Ob h λz h aU=>Jt3 [2,5] (λc d a=>∃b u t,d=(10,.bool z.1)::c/\Stp [6,14] p bm b a/\Oc E6 2 b a 12 u t z.2/\Bc b a 6 v 32 [vi f,.slice i m.1.length j,.slice u z.2.length t]) ?_ ?_))
 refine Bk h (λa3 h=>Jy R<|Js<|Oh h<|Jw1 _ ⟨p,none,0,R,Jo3,FZ,aJ⟩<|KM R) (λa3 h=>Jx R<|Jl3 1 R<|Ob h λ_ ac h=>Jd3 R K.rdc ac U33 Z9<|Jc3 R I9 ((K.stp<|T.tr U).rdc.gStr ac)<|Ob h λak a8 h=>Jw3 R call78 (mJ (J:=Mk p) ((X.stp<|T.tr U).map (mp [] 0) R R) a8) ?_)
 rintro _ _ ⟨_,G,F,rfl,aA,aL⟩
 refine Im aA 12 R (λN ax bc=>Tv<|Jb 5 R<|Jl3 1 R<|Je3 R U32 R Z30<|Jz3 N 6 (off:=2) (vc:=[.slice G ak.1.length F]) (cs':=[vi f,.slice i m.1.length j,.slice G ak.1.length F]) R Z30 R Fct R λbi ar _=>Tv<|Jd<|Jm3 2 R<|Ob h λbe h aO=>Jk4 [2,5,10] 66 be N bi 2 tv ?_ ?_)
 exact Bk h (λaW h=>Jn 2 R<|Oh h<|Jl4 tv R) (λaW h=>Jn 2 R<|Oh h<|Jl4 tv R)
 rintro _ _ _ ⟨rfl,am,au⟩
 exact have h:=aO;Jc 1 R (Oh h<|Jw1 _ ⟨(λH=>ren [(14,12)]<|am H),G,F,R,(Jz2 ((T3 ax ar au).wk R) [(14,12)] R),(((aL.mx (bW _) bc R (R:12+2=14)).stp Fct).map (ren [(14,12)]) R R),Fct⟩<|KM R)
 rintro _ bn ⟨M,u,t,rfl,_,_,Y⟩
 refine Jp<|Jq<|Jl3 3 R<|Ob aU λbf h aP=>Jk4 [2,5] 74 bf M bn 5 tv ?_ ?_
 exact Bk h (λaX h=>Jf R (Jn4 [vi 2,vi 2] R)<|Jg4 tv R (Jh4 (haE Y.cells) I32 Z32 R)<|Ob h λ_ a9 h=>Jw3 R call55 (mq (J:=Mk M) (p0:=(⟨2,2⟩:Sig)) (p1:=(⟨f,m.1,z.2⟩:Clause)) Gct Gct a9)<|Kb λ_ _ _=>Tv<|Jn 2 R<|Oh h<|Jv1 _ tv ⟨R,_,Fct⟩<|KM R) (λaX h=>Jn 1 R<|Je4 R<|Je4 R<|Jn 2 R<|Oh h<|Jl4 tv R)
 rintro _ _ _ ⟨rfl,n,av⟩
 refine have h:=aP;Jd ?_
 exact Bk h (λaY h=>Jy R<|Js<|Jp<|Jj3<|Jg4 tv R (Jh4 (haE (Y.stp av).cells) I32 Z32 R)<|Jm4 n 2 R Z32 R Fct R λ_ _ aC=>Tv<|Jb 1 R<|Ju<|Jb2 (l:=[.cell 2 32,.tmp 3]) results54 (cc R aC I32 Z32 R<|Jq2 R R) R<|Oh h<|⟨(λH=>ren [(11,2),(12,3)]<|n H),i,j,u,t,R,Fct,Fct,Fct⟩) (λaY h=>Jx R<|Jj3<|Jf R (Jn4 [vi 0,.slice none 0 0,.slice none 0 0] R)<|Jm4 n 2 R Z32 R Fct R λ_ _ aB=>Tv<|Jb 1 R<|Ju<|Jw<|Jb2 (l:=[.cell 2 32,.tmp 3]) results54 (cc R aB I32 Z32 R<|Jq2 R R) R<|Oh h<|⟨n,none,0,none,0,R,Fct,FZ,FZ⟩)
theorem ov {p0:Sig}{aX a0 aY a9}{p1:Clause}(de:Rd Ri J w 0 aX a0 p1.A) (df:Rd Ri J w 0 aY a9 p1.B){r:Det}(h:lQ p0 p1=some r):Ret prog 109 [.agg #[vi p0.In,vi p0.Out],.agg #[vi p1.Kind,.slice aX p1.A.length a0,.slice aY p1.B.length a9]] w (λc4 a=>∃b bj bl bk bm,c4= .agg #[.slice bj r.Next.length bl,.slice bk r.Pairs.length bm]/\Ent J w b a/\Oc (FU E6 2) 30 b a 2 bj bl r.Next/\Oc Pair.ep120 120 b a 3 bk bm r.Pairs):=by
 refine Jp3 J func109 R ntmps109 R λdg=>Jj3<|Jx3 J 2 R λ_ _ bx _ cm=>Tv<|Jx3 bx 3 R λ_ _ bF bP cw=>Tv<|Jy3 bF 4 R X60 R λ_ _ bq aK _=>Tv<|Jd<|Jf3 R<|Jj3<|Jf R (Jn4 [.slice none 0 0,.slice none 0 0] R)<|Jy3 bq 5 R X120 R λt _ C aO b8=>Tv<|Jm4 C 5 R Z120 R b8 R λc5 aR _=>Tv<|Jd<|Jq<|Jj3<|Je3 R U32 R Z2 (have be:=cw.stp (T3 aK aO aR);Jc3 R I2 (be.ld 0 R R) (Jd<|Jv<|Jq<|Jf3 R<|Ob h λc3 h cD=>Jt3 [2,3,4,5,6,13] (λd e a=>∃b,e=(17,.bool c3)::d/\Stp [] C c5 b a) ?_ ?_))
 exact Bk h (λcR h=>Jy R<|Jg3 R<|Oh h<|Jw1 _ ⟨C,R,Jo3⟩<|KM R) (λcR h=>Jx R<|Js<|Oh h<|Jw1 _ ⟨C,R,Jo3⟩<|KM R)
 rintro _ B ⟨f,rfl,aU⟩
 refine Jp<|Ob cD λc h cE=>Jt3 [2,3,4,6] (λd e a=>∃b q n p o,e=(5,vi c.1)::d/\Stp [5] f B b a/\Oc E6 2 b a 6 q n c.2.1/\Oc E6 2 b a 7 p o c.2.2/\Bc b a 5 t 120 [.slice q c.2.1.length n,.slice p c.2.2.length o]) ?_ ?_
 refine Bk h (λcS h=>Jy R<|Jf3 R<|Ob h λu h cF=>Jt3 [2,3,4,6] (λd e a=>∃b X ad Q Y,e=(5,vi u.1)::d/\Stp [5] f B b a/\Oc E6 2 b a 6 X ad u.2.1/\Oc E6 2 b a 7 Q Y u.2.2/\Bc b a 5 t 120 [.slice X u.2.1.length ad,.slice Q u.2.2.length Y]) ?_ ?_) (λcS h=>Jx R<|Jk3<|Ji4 f 6 [1] R Y30 bS R λaq aw _ aG _ _=>Tv<|Je3 R U120 R Z30<|Jz3 aG 5 (off:=0) (vc:=[.slice aq ([1]:VI).length aw]) (cs':=[.slice aq ([1]:VI).length aw,.slice none 0 0]) R Z30 R Fct R λ_ _ cn=>Tv<|Jo<|Oh h<|Jw1 _ ⟨aG,aq,aw,none,0,R,Fct,Fct,FZ,cn⟩<|KM R)
 refine Bk h (λcT h=>Jy R<|Jf3 R<|Ob h λv h cG=>Jt3 [2,3,4,6] (λd e a=>∃b G T K L,e=(5,vi v.1)::d/\Stp [5] f B b a/\Oc E6 2 b a 6 G T v.2.1/\Oc E6 2 b a 7 K L v.2.2/\Bc b a 5 t 120 [.slice G v.2.1.length T,.slice K v.2.2.length L]) ?_ ?_) (λcT h=>Jx R<|Jf3 R<|Jk3<|Ji4 f 6 [2] R Y30 bS R λav an _ aH _ _=>Tv<|Je3 R U120 R Z30<|Jz3 aH 5 (off:=0) (vc:=[.slice av ([2]:VI).length an]) (cs':=[.slice av ([2]:VI).length an,.slice none 0 0]) R Z30 R Fct R λ_ _ cr=>Tv<|Jo<|Oh h<|Jw1 _ ⟨aH,av,an,none,0,R,Fct,Fct,FZ,cr⟩<|KM R)
 refine Bk h (λcU h=>Jy R<|Jf3 R<|Ob h λx h cH=>Jt3 [2,3,4,6] (λd e a=>∃b aa O E F,e=(5,vi x.1)::d/\Stp [5] f B b a/\Oc E6 2 b a 6 aa O x.2.1/\Oc E6 2 b a 7 E F x.2.2/\Bc b a 5 t 120 [.slice aa x.2.1.length O,.slice E x.2.2.length F]) ?_ ?_) (λcU h=>Jx R<|Jk3<|Ji4 f 6 [1] R Y30 bS R λaZ a3 _ bH _ _=>Tv<|Ji4 bH 7 [0] R Y30 bS R λa4 bb _ aI _ _=>Tv<|Jf R (Jn4 [.slice aZ ([1]:VI).length a3,.slice a4 ([0]:VI).length bb] R)<|Jm4 aI 5 R Z120 R Fct R λ_ _ cv=>Tv<|Jo<|Oh h<|Jw1 _ ⟨aI,aZ,a3,a4,bb,R,Fct,Fct,Fct,cv⟩<|KM R)
 refine Bk h (λcV h=>Jy R<|Jf3 R<|Ob h λy h cA=>Jt3 [2,3,4,6] (λd e a=>∃b U M H W,e=(5,vi y.1)::d/\Stp [5] f B b a/\Oc E6 2 b a 6 U M y.2.1/\Oc E6 2 b a 7 H W y.2.2/\Bc b a 5 t 120 [.slice U y.2.1.length M,.slice H y.2.2.length W]) ?_ ?_) (λcV h=>Jx R<|Jk3<|Ji4 f 6 [0,1] R Y30 bS R λa8 ba _ bJ _ _=>Tv<|Ji4 bJ 7 [1] R Y30 bS R λa5 aW _ aJ _ _=>Tv<|Jf R (Jn4 [.slice a8 ([0,1]:VI).length ba,.slice a5 ([1]:VI).length aW] R)<|Jm4 aJ 5 R Z120 R Fct R λ_ _ bX=>Tv<|Jo<|Oh h<|Jw1 _ ⟨aJ,a8,ba,a5,aW,R,Fct,Fct,Fct,bX⟩<|KM R)
 exact Bk h (λcP h=>Jy R<|Jf3 R<|Jk3<|Ji4 f 6 [2,3] R Y30 bS R λa1 bc _ bs _ _=>Tv<|Ji4 bs 7 [1,3] R Y30 bS R λa6 a2 _ aC _ _=>Tv<|Jf R (Jn4 [.slice a1 ([2,3]:VI).length bc,.slice a6 ([1,3]:VI).length a2] R)<|Jm4 aC 5 R Z120 R Fct R λ_ _ b3=>Tv<|Jo<|Oh h<|Jw1 _ ⟨aC,a1,bc,a6,a2,R,Fct,Fct,Fct,b3⟩<|KM R) (λcP h=>Jx R<|Jk3<|Ji4 f 6 [0] R Y30 bS R λap ao _ aB _ _=>Tv<|Je3 R U120 R Z30<|Jz3 aB 5 (off:=0) (vc:=[.slice ap ([0]:VI).length ao]) (cs':=[.slice ap ([0]:VI).length ao,.slice none 0 0]) R Z30 R Fct R λ_ _ b2=>Tv<|Jo<|Oh h<|Jw1 _ ⟨aB,ap,ao,none,0,R,Fct,Fct,FZ,b2⟩<|KM R)
 rintro _ _ ⟨br,U,M,H,W,rfl,_,bZ,b0,b1⟩
 cases cA
 exact Jw1 _ ⟨br,U,M,H,W,R,Fct,bZ,b0,b1⟩<|KM R
 rintro _ _ ⟨bI,aa,O,E,F,rfl,_,cx,cy,cz⟩
 cases cH
 exact Jw1 _ ⟨bI,aa,O,E,F,R,Fct,cx,cy,cz⟩<|KM R
 rintro _ _ ⟨bG,G,T,K,L,rfl,_,cs,ct,cu⟩
 cases cG
 exact Jw1 _ ⟨bG,G,T,K,L,R,Fct,cs,ct,cu⟩<|KM R
 rintro _ _ ⟨bE,X,ad,Q,Y,rfl,_,co,cp,cq⟩
 cases cF
 exact Jw1 _ ⟨bE,X,ad,Q,Y,R,Fct,co,cp,cq⟩<|KM R
 rintro _ bp ⟨aj,q,n,p,o,rfl,aV,cj,ck,cl⟩
 refine have h:=cE;Jz (Jp<|Jj3<|Jg4 tv R (Jh4 (haE cl.cells) I120 Z120 R)<|Jb4 aj Pair.ep120 8 [6,7] (parts:=[(0,.tmp 40)]) (cells:=[.slice q c.2.1.length n,.slice p c.2.2.length o]) (xs:=([(⟨c.2.1,c.2.2⟩:Pair)]:VP)) R Y58 cQ R (Jj4 ⟨[.slice q c.2.1.length n],[.slice p c.2.2.length o],Zl aj bp [6],Zl aj bp [7],R,Zl.sp (l1:=[6]) (l2:=[7]) R,Zl.sr (l1:=[6]) (l2:=[7]),⟨_,_,R,cj⟩,⟨_,_,R,ck⟩⟩) λm s _ bt aL _=>Tv<|Jf R (Jn4 [.slice none 0 0,.slice m ([(⟨c.2.1,c.2.2⟩:Pair)]:VP).length s] R)<|Jy3 bt 9 R X60 R λa7 _ D aM b4=>Tv<|Jm4 D 9 R Z60 R b4 R λbn aN b5=>Tv<|Jd<|Jq<|Jf3 R (Ob h λ_ cN h=>have cI:=gk cN;Ob h λbi cL cB=>Jt3 [4,7] (λd e a=>∃b,∃ag:VV,∃S V,e=d/\Stp [9,10,11,14] D bn b a/\Oc (FU E6 2) 30 b a 10 S V ag/\Bc b a 9 a7 60 [.slice S ag.length V,.slice m ([(⟨c.2.1,c.2.2⟩:Pair)]:VP).length s]/\bi=FX ag) (Jv<|Ju3 [2,3,4,7,43] (λg d e a=>∃b i,∃A:VV,∃ab P,e=(44,vi i)::d/\Stp [9,10,11,14] D bn b a/\Oc (FU E6 2) 30 b a 10 ab P A/\Bc b a 9 a7 60 [.slice ab A.length P,.slice m ([(⟨c.2.1,c.2.2⟩:Pair)]:VP).length s]/\0<=i/\FV (c.1-i)=g/\cntM (gg p0 p1) g i A=some bi) ⟨_,_,⟨D,0,([]:VV),none,0,R,Jo3,FZ,b5,(by decide),(by simp),cL⟩,(KM R)⟩ ?_) ?_))
 rintro g _ _ ⟨aE,i,A,ab,P,rfl,aP,b7,bd,cK,bf,h⟩
 rcases g with _|g
 exact Jf3 R<|Jq<|Jx2 R (dcf bf)<|Jc1<|Jt<|Jt<|Jb1<|Oh h<|Jw1 _ ⟨aE,A,ab,P,R,Fct,b7,bd,R⟩<|KM R
 refine Ob h λdh h ay=>have af:=dct bf;Jf3 R (Jq<|Jw2 R af<|Js<|Jp<|Jq<|Jv<|Jf3 R<|Jj3<|Jc4 aE E6 11 R Y30 bS R λbW bV _ bu al _=>Tv<|Jb 1 R<|Jq<|Jj3<|Jg4 tv R (Jh4 (haE (cm.stp<|T11 bP aK aO aR aU aV aL aM aN aP al).cells) I39 Z39 R)<|Ob h λc6 cX h=>Jw3 R call80 (gf (J:=Mk bu) (p0:=p0) cX)<|Ki λbo ah aQ=>Tv<|Jb 1 R (Ob h λ_ cO h=>have cJ:=gk cO;Ob h λbh cM cC=>Jt3 [2,3,4,7,43,44] (λd e a=>∃b,∃j:VI,∃I N,e=(9,.slice I j.length N)::d/\Stp [11] ah bo b a/\Oc E6 2 b a 11 I N j/\bh=FX j) (Jv<|Ju3 [2,3,4,7,8,43,44,49] (λg d e a=>∃b k,∃z:VI,∃ac Z,e=(9,.slice ac z.length Z)::(50,vi k)::d/\Stp [11] ah bo b a/\Oc E6 2 b a 11 ac Z z/\0<=k/\FV (c6-k)=g/\cntM (gh p1 i) g k z=some bh) ⟨_,_,⟨ah,0,([]:VI),bW,bV,R,Jo3,Fct,(by decide),(by simp),cM⟩,(KM R)⟩ ?_) ?_))
 rintro g _ _ ⟨ai,k,z,ac,Z,rfl,bL,ca,bg,ae,h⟩
 rcases g with _|g
 exact Jf3 R<|Jq<|Jx2 R (dcf ae)<|Jc1<|Jt<|Jt<|Jb1<|Oh h<|Jw1 _ ⟨ai,z,ac,Z,R,Fct,ca,R⟩<|KM R
 exact Ob h λdi h az=>Jf3 R<|Jq<|Jw2 R (dct ae)<|Js<|Jp<|Jq<|Jv<|Jf3 R<|Xn ai [3] [2,5,11,14,20,26,32,6,15,27,22,34,37,40,43,47] λ_ bM=>Jn 1 R<|Je3 R U32 R Z2<|Jn 1 R<|Je3 R U32 R Z30<|Jn 1 R<|Je3 R U32 R Z30<|Jn 1 R (have ax:=be.stp (T10 aU aV aL aM aN aP al aQ bL bM);Jg R (Jd2 I2 R R<|hvC (ax.ld 0 R R) R) (Jg R (Jd2 I30 R R<|hvC (ax.ld 1 R R) R)<|Jg R (Jd2 I30 R R<|hvC (ax.ld 2 R R) R)<|Ob h λ_ cY h=>Jw3 R C135 (ch (J:=Mk ai) Gct cY)<|Kb λ_ bw am=>⟨(am.cl R),Ob h λ_ cZ h=>Jw3 R C135 (ch (J:=Mk bw) Gct cZ)<|Kb λ_ bz aS=>⟨((am.tr aS).cl R),Ob h λc7 c0 h=>Jw3 R call173 (rF (J:=Mk bz) c0) (Ki λ_ bA bN=>have ak:=(T3 am aS bN);⟨(ak.cl R),Ji4 bA 20 [c7] R Y30 bS R λdd db _ bB aT cb=>⟨((ak.tr aT).cl R),Ob h λc8 c1 h=>Jd4 bB E6 11 [] R Y30 bS R Fct (FY (cd _) cb.rdc) bU c1 R λbR bT _ bC bO ce=>⟨((T3 ak aT bO).cl R),Jn 1 R<|Jt1<|Jo<|Jz<|Jp<|Jg3 R<|wr2 bg ae cJ ▸ (Ou h az (λaz=>Ja2 ⟨bC,k+1,c8,bR,bT,R,Fct,ce,nxz bg,nxm ae,az⟩ R))⟩⟩⟩)⟩⟩))
 rintro _ _ ⟨bv,j,I,N,rfl,bK,b9,rfl⟩
 refine have h:=yI cC;Jp (Jk3<|Je3 R U60 R Z51<|Jc3 R I51 ((bd.stp<|T3 al aQ bK).ld 0 R R)<|Jn 1 R<|Jb4 bv (FU E6 2) 14 [11] (parts:=[(0,.tmp 71)]) (cells:=[.slice I j.length N]) (xs:=([j]:VV)) R Y51 bY R (Jj4 ⟨_,_,R,b9⟩) λdc da _ bD _ cf=>Tv<|Ob h λaA c2 h=>Jd4 bD (FU E6 2) 10 [14] R Y51 bY R Fct cf.src (c9 R) c2 R λar au _ aF _ _=>Tv<|Je3 R U60 R Z51<|Jz3 aF 9 (off:=0) (vc:=[.slice ar aA.length au]) (cs':=[.slice ar aA.length au,.slice m ([(⟨c.2.1,c.2.2⟩:Pair)]:VP).length s]) R Z51 R Fct R λ_ _ cg=>Tv<|Jo<|Jz<|Jp<|Jg3 R ?_)
 have cW:FW .i64 (i+1)=i+1:=wr1 cK (Jn2 af) cI
 rw[cW]
 exact have af:=Jn2 af;Ou h ay (λay=>Ja2 ⟨aF,i+1,aA,ar,au,R,Fct,Fct,cg,by omega,by omega,ay⟩ R)
 rintro _ _ ⟨aD,ag,S,V,rfl,_,_,b6,rfl⟩
 exact have h:=yI cB;Jp (Jj3<|Jg4 tv R (Jh4 (haE b6.cells) I60 Z60 R)<|Jm4 aD 4 R Z60 R Fct R λ_ _ ci=>Tv<|Jd<|Ju<|Jb2 (l:=[.cell 4 60]) results109 (cc R ci I60 Z60 R R) R<|Oh h<|⟨(λbQ=>ren [(10,2),(8,3)]<|aD bQ),S,V,m,s,R,Fct,Fct,Fct⟩)
theorem la {aH aG ax az}{p0:Det}{S M O ar}{p1:Det}(cl:Rd Rs J w 0 aH aG p0.Next) (fm:Rd Pair.rp J w 0 ax az p0.Pairs) (cm:Rd Rs J w 0 S M p1.Next) (fn:Rd Pair.rp J w 0 O ar p1.Pairs){r:Det×Bool}(h:j5 p0 p1=some r):Ret prog 108 [.agg #[.slice aH p0.Next.length aG,.slice ax p0.Pairs.length az],.agg #[.slice S p1.Next.length M,.slice O p1.Pairs.length ar]] w (λeX a=>∃b cI cK cJ cL,eX= .tuple #[.agg #[.slice cI r.1.Next.length cK,.slice cJ r.1.Pairs.length cL],.bool r.2]/\Ent J w b a/\Oc (FU E6 2) 30 b a 2 cI cK r.1.Next/\Oc Pair.ep120 120 b a 3 cJ cL r.1.Pairs):=by
 refine Jp3 J func108 R ntmps108 R λfo=>Jj3<|Jx3 J 2 R λ_ _ c5 b5 d7=>Tv<|Jx3 c5 3 R λ_ _ dc a6 eb=>Tv<|Jy3 dc 4 R X60 R λ_ cT F am dv=>Tv<|Jb 1 R<|Jq<|Jj3<|Je3 R U60 R Z58 (have bk:=d7.stp (a6.tr am);Jc3 R I58 (bk.ld 1 R R) (Js3 R U58 R R<|Je3 R U60 R Z58 (have bl:=eb.stp am;Jc3 R I58 (bl.ld 1 R R) (Js3 R U58 R R<|Jb 2 R ?_))))
 refine Bk h (λeH h=>Jy R<|Js<|Jp<|Jj3<|Jf R (Jn4 [vi 0,vi 0] R)<|Jb4 F (F0 E6 E6) 5 [] (parts:=[(0,.tmp 30)]) (cells:=[vi 0,vi 0]) (xs:=([(0,0)]:List (Int×Int))) R Y188 iy R (Jj4 ⟨[vi 0],[vi 0],Zl F cT [],Zl F cT [],R,Zl.sp (l1:=[]) (l2:=[]) R,Zl.sr (l1:=[]) (l2:=[]),R,R⟩) λdr dn _ c6 I _=>Tv<|Jb 1 R<|Jj3<|Jf R (Jn4 [.slice none 0 0,.slice none 0 0] R)<|Jy3 c6 6 R X60 R λD _ ak K dX=>Tv<|Jm4 ak 6 R Z60 R dX R λcR L d2=>Tv<|Jd<|Jq<|Jf3 R<|Ob h λcF ey cq=>Jt3 [2,3,4,7] (λd e a=>∃b,∃f:(List<|Int×Int)×Int×VV,∃bf ba n m,e=(6,.slice bf f.1.length ba)::d/\Stp [5,6,7,8,9] ak cR b a/\Oc (F0 E6 E6) 187 b a 5 bf ba f.1/\Oc (FU E6 2) 30 b a 7 n m f.2.2/\Bc b a 6 D 60 [.slice n f.2.2.length m,.slice none 0 0]/\cF=FX f) (Jv<|Ju3 [2,3,4,7] (λc d e a=>∃b,∃g:(List<|Int×Int)×Int×VV,∃Q T aB aF,e=(6,.slice Q g.1.length T)::(8,vi g.2.1)::d/\Stp [5,6,7,8,9] ak cR b a/\Oc (F0 E6 E6) 187 b a 5 Q T g.1/\Oc (FU E6 2) 30 b a 7 aB aF g.2.2/\Bc b a 6 D 60 [.slice aB g.2.2.length aF,.slice none 0 0]/\ci (iT p0 p1) c g=some cF) ⟨_,_,⟨ak,((([(0,0)]:List (Int×Int)):(List<|Int×Int)),(0:Int),([]:VV)),dr,dn,none,0,R,Jo3,Fct,FZ,d2,ey⟩,(KM R)⟩ ?_) ?_) (λeH h=>Jx R<|Jj3<|Jf R (Jn4 [.slice none 0 0,.slice none 0 0] R)<|Jm4 F 4 R Z60 R dv R λ_ _ dF=>Tv<|Jb 1 R<|Ju<|Jw<|Jb2 (l:=[.cell 4 60,.tmp 5]) results108 (cc R dF I60 Z60 R<|Jq2 R R) R<|Oh h<|⟨F,none,0,none,0,R,Fct,FZ,FZ⟩)
 rintro c _ _ ⟨bO,g,Q,T,aB,aF,rfl,ao,bp,d8,ce,h⟩
 rcases c with _|c
 cases h
 refine Ob h λ_ h bw=>Jq<|Jl3 2 R<|Js3 R U188 R R<|Jb 1 R ?_
 refine Bk h (λeK h=>Jy R<|Jc1<|Jt<|Jt ?_) (λeK h=>Jx R<|Js<|Jp<|Jq<|Jv<|Jj3<|Jc4 bO E6 8 R Y30 bS R λdq dj _ al z _=>Tv<|Jb 1 R<|Jq<|Jq<|Xn al [0,2,5] [2,8,11,14,17,32,3,18,23,24,29] λcS A=>Je3 R U60 R Z51<|Jn 2 R<|Ob h λ_ cx h=>Jd3 R bp.rdc cx U188 Z187<|Jf R (jx U187 Z2 R R R R)<|Jn 1 R<|Jg R (Jd2 I51 R R<|hvC ((bk.stp<|T6 I K L ao z A).ld 0 R R) R) ?_)
 cases h
 exact have h:=bw;Jb1 (Oh h<|Jw1 _ ⟨bO,(g.1,g.2.1,g.2.2),Q,T,aB,aF,R,Fct,bp,d8,ce,R⟩<|KM R)
 have cf:=bp.stp (z.tr A)
 obtain⟨_,eD,et⟩:=(cf.rdc).gSt cx
 obtain⟨_,_,rfl,rfl,rfl⟩:=eD
 refine Jg R (Jd2 I2 R R<|hvC (λa bz=>et a bz 0 _ R) R)<|Ob h λcX cy h=>Jd3 R cl cy U51 Z30 ?_
 obtain⟨_,_,bq,eo⟩:=(cl.stp (T9 b5 a6 am I K L ao z A)).gSl cy
 refine Jg R (Jd2 I30 R R<|hvC eo R)<|Js3 R U30 R R<|Jt1<|Jd<|Ob h λcG ez ek=>Jt3 [2,3,4,7,8] (λd e a=>∃b,∃o:(List<|Int×Int)×VI,∃av ay aL aN,e=(6,.slice av o.1.length ay)::(9,.slice aL o.2.length aN)::d/\Stp [5,8,9] al cS b a/\Oc (F0 E6 E6) 187 b a 5 av ay o.1/\Oc E6 2 b a 8 aL aN o.2/\cG=FX o) (Jv<|Ju3 [2,3,4,7,8,48,49] (λc d e a=>∃b t,∃q:(List<|Int×Int)×VI,∃Y W aD aI,e=(6,.slice Y q.1.length W)::(9,.slice aD q.2.length aI)::(50,vi t)::d/\Stp [5,8,9] al cS b a/\Oc (F0 E6 E6) 187 b a 5 Y W q.1/\Oc E6 2 b a 8 aD aI q.2/\0<=t/\FV ((cX.length:Int)-t)=c/\cntM (gc p1 g cX) c t q=some cG) ⟨_,_,⟨al,0,(g.1,([]:VI)),Q,T,dq,dj,R,Jo3,cf,Fct,(by decide),(by simp),ez⟩,(KM R)⟩ ?_) ?_
 rintro c _ _ ⟨a1,t,q,Y,W,aD,aI,rfl,a7,br,ea,en,cp,h⟩
 rcases c with _|c
 exact Jf3 R<|Jq<|Jx2 R (dcf cp)<|Jc1<|Jt<|Jt<|Jb1<|Oh h<|Jw1 _ ⟨a1,(q.1,q.2),Y,W,aD,aI,R,Fct,br,ea,R⟩<|KM R
 refine Ob h λfs h bx=>have aS:=dct cp;Jf3 R (Jq<|Jw2 R aS<|Js<|Jp<|Jq<|Jv<|Jl3 1 R<|Ob h λag cz h=>Jd3 R bq cz U30 Z2<|Jc3 R I2 ((bq.stp a7).gInt cz)<|Jb 2 R<|Jq<|Xn a1 [0,3,5] [2,5,11,14,17,20,32,6,21,26,27,35,36,41,43,46] λ_ a8=>Jn 1 R<|Je3 R U60 R Z51<|Jn 2 R<|Ob h λ_ cA h=>Jd3 R br.rdc cA U188 Z187<|Jf R (jx U187 Z2 R R R R)<|Jn 1 R<|Jg R (Jd2 I51 R R<|hvC ((bl.stp<|T8 I K L ao z A a7 a8).ld 0 R R) R) ?_)
 have cg:=br.stp a8
 obtain⟨_,eE,eu⟩:=(cg.rdc).gSt cA
 obtain⟨_,_,rfl,rfl,rfl⟩:=eE
 refine Jg R (Jd2 I2 R R<|hvC (λa bz=>eu a bz 1 _ R) R)<|Ob h λ_ cB h=>Jd3 R cm cB U51 Z30 ?_
 obtain⟨_,_,cj,ep⟩:=(cm.stp (T11 b5 a6 am I K L ao z A a7 a8)).gSl cB
 refine Jg R (Jd2 I30 R R<|hvC ep R)<|Ob h λah cC h=>Jd3 R cj cC U30 Z2<|Jg R (Jd2 I2 R R<|hvC (cj.gInt cC) R)<|Jf R (Jn4 [vi ag,vi ah] R)<|Jy3 a1 9 R X187 R λ_ _ bP a9 ed=>⟨(a9.cl R),Jm4 bP 9 R Z187 R ed R λ_ b6 ck=>⟨((a9.tr b6).cl R),Jt1<|Jd<|Jl3 1 R<|Jg4 tv R (Jh4 (haE ck.cells) I187 Z187 R)<|Ob h λfz eT h=>Jw3 R call172 (jq (J:=Mk bP) (p1:=(ag,ah)) (Jn3 (cg.stp<|a9.tr b6).rdc) eT)<|Ki λbB H dh=>Tv<|Jb 1 R<|Jq<|Jf3 R<|Ob h λad h ee=>Jt3 [2,3,4,7,8,9,48,49,50] (λd e a=>∃b aq au,e=(6,.slice aq ad.1.length au)::(13,vi ad.2)::d/\Stp [5] H bB b a/\Oc (F0 E6 E6) 187 b a 5 aq au ad.1) ?_ ?_⟩⟩
 exact Bk h (λeF h=>Jy R<|Js<|Oh h<|Jw1 _ ⟨H,Y,W,R,Jo3,Fct⟩<|KM R) (λeF h=>Jx R<|Jl3 1 R<|Js3 R U188 R R<|Jb 1 R<|Jm3 1 R<|Jg4 tv R (Jh4 (haE (ck.stp dh).cells) I187 Z187 R)<|Jb4 H (F0 E6 E6) 12 [] (parts:=[(0,.tmp 77)]) (cells:=[vi ag,vi ah]) (xs:=([(ag,ah)]:List (Int×Int))) R Y188 iy R (Jj4 ⟨[vi ag],[vi ah],Zl H bB [],Zl H bB [],R,Zl.sp (l1:=[]) (l2:=[]) R,Zl.sr (l1:=[]) (l2:=[]),R,R⟩) λe6 e7 _ cZ _ ds=>Tv<|Ob h λ_ eU h=>Jd4 cZ (F0 E6 E6) 5 [] R Y188 iy R Fct (FY (Ak (cd _)<|cd _) ds.rdc) bU eU R λdl dm _ c0 _ du=>Tv<|Jc 1 R<|Oh h<|Jw1 _ ⟨c0,dl,dm,R,Fct,du⟩<|KM R)
 rintro _ _ ⟨cY,aq,au,rfl,_,_⟩
 refine have h:=ee;Jp (Jm3 2 R<|Ji4 cY 12 [ad.2] R Y30 bS R λfc fh _ c1 _ dw=>Tv<|Ob h λe1 eV h=>Jd4 c1 E6 8 [] R Y30 bS R Fct (FY (cd _) dw.rdc) bU eV R λdp dk _ c2 _ dx=>Tv<|Jc 1 R<|Jz<|Jp<|Jg3 R ?_)
 have eN:FW .i64 (t+1)=t+1:=wr1 en (Jn2 aS) bq.len_le
 rw[eN]
 exact have aS:=Jn2 aS;Ou h bx (λbx=>Ja2 ⟨c2,t+1,(ad.1,e1),aq,au,dp,dk,R,Fct,Fct,dx,by omega,by omega,bx⟩ R)
 rintro _ _ ⟨a0,o,av,ay,aL,aN,rfl,dg,_,d9,rfl⟩
 refine have h:=yI ek;Jp (Jq<|Jl3 1 R<|Js3 R U188 R R<|Jb 1 R ?_)
 refine Bk h (λeG h=>Jy R<|Js<|Jp<|Jk3<|Je3 R U60 R Z51<|Jc3 R I51 ((ce.stp<|T3 z A dg).ld 0 R R)<|Jn 1 R<|Jb4 a0 (FU E6 2) 9 [8] (parts:=[(0,.tmp 91)]) (cells:=[.slice aL o.2.length aN]) (xs:=([o.2]:VV)) R Y51 bY R (Jj4 ⟨_,_,R,d9⟩) λfa fe _ c3 _ dz=>Tv<|Ob h λbD eW h=>Jd4 c3 (FU E6 2) 7 [9] R Y51 bY R Fct dz.src (c9 R) eW R λbd be _ bE _ _=>Tv<|Je3 R U60 R Z51<|Jz3 bE 6 (off:=0) (vc:=[.slice bd bD.length be]) (cs':=[.slice bd bD.length be,.slice none 0 0]) R Z51 R Fct R λ_ _ dA=>Tv<|Jo<|Jz<|Jp<|Jg3 R ?_) (λeG h=>Jx R<|Jj3<|Jf R (Jn4 [.slice none 0 0,.slice none 0 0] R)<|Jm4 a0 4 R Z60 R Fct R λ_ _ dy=>Tv<|Jb 1 R<|Ju<|Jw<|Ja1<|Jw<|Jw ?_)
 cases h
 exact Ja2 ⟨bE,(o.1,((FW .i64<|g.2.1+1):Int),bD),av,ay,bd,be,R,Fct,Fct,Fct,dA,bw⟩ R
 cases h
 exact Ov bw cq (λh=>Ja1<|Jr2<|Jw<|Jb2 (l:=[.cell 4 60,.tmp 5]) results108 (cc R dy I60 Z60 R<|Jq2 R R) R<|Oh h<|⟨a0,none,0,none,0,R,Fct,FZ,FZ⟩)
 rintro _ aU ⟨G,f,bf,ba,n,m,rfl,df,bo,_,_,rfl⟩
 refine have h:=yI cq;have bQ:=(T4 I K L df);Jp (Jq<|Jj3<|Jg4 tv R (Jh4 (haE (bk.stp bQ).cells) I60 Z60 R)<|Jg4 tv R (Jh4 (haE (bl.stp bQ).cells) I60 Z60 R)<|Jb4 G (Ep.fz Det.rp) 8 [] (parts:=[(0,.tmp 95),(1,.tmp 96)]) (cells:=[.slice aH p0.Next.length aG,.slice ax p0.Pairs.length az,.slice S p1.Next.length M,.slice O p1.Pairs.length ar]) (xs:=([p0,p1]:List Det)) R underlying190 yK R ⟨[.slice aH p0.Next.length aG,.slice ax p0.Pairs.length az],[.slice S p1.Next.length M,.slice O p1.Pairs.length ar],Zl G aU [],Zl G aU [],R,Zl.sp (l1:=[]) (l2:=[]) R,Zl.sr (l1:=[]) (l2:=[]),(Det.mk_rel (Sl.z1 Fct)<|Sl.z1 Fct),⟨[.slice S p1.Next.length M,.slice O p1.Pairs.length ar],[],Zl G aU [],Zl G aU [],R,Zl.sp (l1:=[]) (l2:=[]) R,Zl.sr (l1:=[]) (l2:=[]),(Det.mk_rel (Sl.z1 Fct)<|Sl.z1 Fct),R⟩⟩ λfb fi cM aV dd bm=>Tv<|Js3 R runUnderlying190 R R<|Jb 1 R<|Ob h λcH ev ef=>Jt3 [4,7] (λd e a=>∃b,∃aT:VP,∃aJ aE,e=d/\Stp [6,9,10,11,12,13,14,15] aV cM b a/\Oc Pair.ep120 120 b a 9 aJ aE aT/\Bc b a 6 D 60 [.slice n f.2.2.length m,.slice aJ aT.length aE]/\cH=FX aT) (Jv<|Ju3 [4,6,7,97,98] (λc d e a=>∃b u,∃E:VP,∃Z aa,e=(99,vi u)::d/\Stp [6,9,10,11,12,13,14,15] aV cM b a/\Oc Pair.ep120 120 b a 9 Z aa E/\Bc b a 6 D 60 [.slice n f.2.2.length m,.slice Z E.length aa]/\0<=u/\FV ((([p0,p1]:List Det).length:Int)-u)=c/\cntM (dt p0 p1 f) c u E=some cH) ⟨_,_,⟨aV,0,([]:VP),none,0,R,Jo3,FZ,Fct,(by decide),(by simp),ev⟩,(KM R)⟩ ?_) ?_)
 rintro c _ _ ⟨bG,u,E,Z,aa,rfl,bR,dC,dD,cr,aP,h⟩
 rcases c with _|c
 exact Jf3 R<|Jq<|Jx2 R (dcf aP)<|Jc1<|Jt<|Jt<|Jb1<|Oh h<|Jw1 _ ⟨bG,E,Z,aa,R,Fct,dC,dD,R⟩<|KM R
 refine Ob h λfp h bt=>Jf3 R<|Jq<|Jw2 R (dct aP)<|Js<|Jp<|Jq<|Jv<|Jl3 1 R<|Ob h λcU cs h=>Jd3 R bm.rdc cs runUnderlying190 Z60 ?_
 obtain⟨_,eA,eq⟩:=Ow.gZS (bm.stp bR) cs
 obtain⟨e2,ft,e3,fu,rfl,fj,bs⟩:=Det.un eA
 refine Jg4 tv R (Jh4 (haE eq) I60 Z60 R)<|Jy3 bG 10 R X60 R λ_ _ ai bT dE=>Tv<|Jn 1 R<|Jm4 ai 10 R Z60 R dE R λcN bV dG=>Tv<|Jd<|Jj3<|Je3 R U60 R Z58<|Jc3 R I58 (dG.ld 1 R R)<|Js3 R U58 R R<|Jb 1 R<|Ob h λcD ew eg=>Jt3 [4,6,7,97,98,99] (λd e a=>∃b,∃af:VP,∃ap aM,e=d/\Stp [6,9,11,12,13,14,15] ai cN b a/\Oc Pair.ep120 120 b a 9 ap aM af/\Bc b a 6 D 60 [.slice n f.2.2.length m,.slice ap af.length aM]/\cD=FX af) (Jv<|Ju3 [4,6,7,14,97,98,99,105,106] (λc d e a=>∃b s,∃ae:VP,∃aK aC,e=(107,vi s)::d/\Stp [6,9,11,12,13,14,15] ai cN b a/\Oc Pair.ep120 120 b a 9 aK aC ae/\Bc b a 6 D 60 [.slice n f.2.2.length m,.slice aK ae.length aC]/\0<=s/\FV ((cU.Pairs.length:Int)-s)=c/\cntM (ec f u cU) c s ae=some cD) ⟨_,_,⟨ai,0,E,Z,aa,R,Jo3,Fct,Fct,(by decide),(by simp),ew⟩,(KM R)⟩ ?_) ?_
 rintro c _ _ ⟨bH,s,ae,aK,aC,rfl,bW,dJ,b8,el,cn,h⟩
 rcases c with _|c
 exact Jf3 R<|Jq<|Jx2 R (dcf cn)<|Jc1<|Jt<|Jt<|Jb1<|Oh h<|Jw1 _ ⟨bH,ae,aK,aC,R,Fct,dJ,b8,R⟩<|KM R
 refine Ob h λfq h bu=>have aQ:=dct cn;Jf3 R (Jq<|Jw2 R aQ<|Js<|Jp<|Jq<|Jv<|Jj3<|Ob h λe0 ct h=>Jd3 R bs ct U58 Z120 ?_)
 obtain⟨_,eB,er⟩:=((bs.stp (T3 bT bV bW))).gSt ct
 obtain⟨e4,fv,e5,fw,rfl,fk,fl⟩:=Pair.un eB
 refine Jg4 tv R (Jh4 (haE er) I120 Z120 R)<|Jy3 bH 11 R X120 R λ_ _ bI bX dK=>Tv<|Jm4 bI 11 R Z120 R dK R λ_ bZ dL=>Tv<|Jd<|Jj3<|Jf R (Jn4 [.slice none 0 0,.slice none 0 0] R)<|Jy3 bI 12 R X120 R λaO _ aj a2 dM=>Tv<|Jm4 aj 12 R Z120 R dM R λcO a3 dN=>Tv<|Jd<|Jq<|Jl3 1 R<|Js3 R U188 R R<|Jb 1 R<|Ob h λcE ex eh=>Jt3 [4,6,7,14,18,97,98,99,105,106,107] (λd e a=>∃b,∃i:VI×VI,∃P N V U,e=d/\Stp [12,13,14,15] aj cO b a/\Oc E6 2 b a 13 P N i.1/\Oc E6 2 b a 14 V U i.2/\Bc b a 12 aO 120 [.slice P i.1.length N,.slice V i.2.length U]/\cE=FX i) (Jv<|Ju3 [4,6,7,14,17,18,97,98,99,105,106,107,112,113] (λc d e a=>∃b k,∃j:VI×VI,∃ab X x y,e=(114,vi k)::d/\Stp [12,13,14,15] aj cO b a/\Oc E6 2 b a 13 ab X j.1/\Oc E6 2 b a 14 x y j.2/\Bc b a 12 aO 120 [.slice ab j.1.length X,.slice x j.2.length y]/\0<=k/\FV ((f.1.length:Int)-k)=c/\cntM (iU f u e0) c k j=some cE) ⟨_,_,⟨aj,0,(([]:VI),([]:VI)),none,0,none,0,R,Jo3,FZ,FZ,dN,(by decide),(by simp),ex⟩,(KM R)⟩ ?_) ?_
 rintro c _ _ ⟨bJ,k,j,ab,X,x,y,rfl,b0,dR,dS,b9,em,co,h⟩
 rcases c with _|c
 exact Jf3 R<|Jq<|Jx2 R (dcf co)<|Jc1<|Jt<|Jt<|Jb1<|Oh h<|Jw1 _ ⟨bJ,(j.1,j.2),ab,X,x,y,R,Fct,dR,dS,b9,R⟩<|KM R
 refine Ob h λfr h bv=>have aR:=dct co;Jf3 R (Jq<|Jw2 R aR<|Js<|Jp<|Jq<|Jv<|Jl3 1 R<|Ob h λv cu h=>Jd3 R bo.rdc cu U188 Z187 ?_)
 obtain⟨_,eC,es⟩:=((bo.stp (T10 dd bR bT bV bW bX bZ a2 a3 b0)).rdc).gSt cu
 obtain⟨_,_,rfl,rfl,rfl⟩:=eC
 refine Jg4 tv R (Jh4 (haE es) I187 Z187 R)<|Jy3 bJ 15 R X187 R λb7 _ aX b1 dT=>Tv<|Jn 1 R<|Jm4 aX 15 R Z187 R dT R λ_ b2 dU=>Tv<|Jd<|Jq<|Jq<|Xn aX [11,15] [2,8,11,3,12,16] λ_ a4=>Je3 R U120 R Z30<|Jn 1 R<|Ob h λ_ cv h=>Jf R (vG (xs:=([v.1,v.2]:VI)) (p:=⟨b7,0,none⟩) cv R U187 Z2 R R R) (have ca:=dL.stp (T6 a2 a3 b0 b1 b2 a4);Jg R (Jd2 I30 R R<|hvC (ca.ld 0 R R) R) (have cb:=dU.stp a4;Jg R (Jd2 I2 R R<|hvC (cb.ldD (xs:=([v.1,v.2]:VI)) 0 R cv R) R) (Ob h λfx eO h=>Jw3 R C135 (ch (J:=Mk aX) Gct eO)<|Kb λeY aY an=>⟨(an.cl R),Jt1<|Jd<|Ob h λac h ei=>Jt3 [4,6,7,14,17,18,19,20,97,98,99,105,106,107,112,113,114] (λd e a=>∃b C B,e=d/\Stp [12,13] aY eY b a/\Oc E6 2 b a 13 C B ac/\Bc b a 12 aO 120 [.slice C ac.length B,.slice x j.2.length y]) ?_ ?_⟩)))
 exact Bk h (λeI h=>Jy R<|Js<|Oh h<|Jw1 _ ⟨aY,ab,X,R,Jo3,Fct,Fct⟩<|KM R) (λeI h=>Jx R<|Jk3<|Je3 R U120 R Z30<|Jc3 R I30 ((b9.stp<|T4 b1 b2 a4 an).ld 0 R R)<|Jn 1 R<|Ji4 aY 18 [k] R Y30 bS R λfg bn _ c7 _ dW=>Tv<|Ob h λcV eP h=>Jd4 c7 E6 13 [] R Y30 bS R Fct (FY (cd _) dW.rdc) bU eP R λbg bj _ bL _ _=>Tv<|Je3 R U120 R Z30<|Jz3 bL 12 (off:=0) (vc:=[.slice bg cV.length bj]) (cs':=[.slice bg cV.length bj,.slice x j.2.length y]) R Z30 R Fct R λ_ _ dY=>Tv<|Jo<|Oh h<|Jw1 _ ⟨bL,bg,bj,R,Fct,Fct,dY⟩<|KM R)
 rintro _ _ ⟨bK,C,B,rfl,b3,_,dV⟩
 refine have h:=ei;Jp (Jq<|Xn bK [11,15] [2,8,11,3,12,16] λ_ a5=>Je3 R U120 R Z30<|Jn 1 R<|Ob h λ_ cw h=>Jf R (vG (xs:=([v.1,v.2]:VI)) (p:=⟨b7,0,none⟩) cw R U187 Z2 R R R)<|Jg R (Jd2 I30 R R<|hvC ((ca.stp<|T3 an b3 a5).ld 1 R R) R)<|Jg R (Jd2 I2 R R<|hvC ((cb.stp<|T3 an b3 a5).ldD (xs:=([v.1,v.2]:VI)) 0 R cw R) R)<|Ob h λfy eQ h=>Jw3 R C135 (ch (J:=Mk bK) Gct eQ)<|Kb λeZ aZ b4=>⟨(b4.cl R),Jt1<|Jd<|Ob h λbA h ej=>Jt3 [4,6,7,14,17,18,97,98,99,105,106,107,112,113,114] (λd e a=>∃b aA aw,e=d/\Stp [12,14] aZ eZ b a/\Oc E6 2 b a 14 aA aw bA/\Bc b a 12 aO 120 [.slice C ac.length B,.slice aA bA.length aw]) ?_ ?_⟩)
 exact Bk h (λeJ h=>Jy R<|Js<|Oh h<|Jw1 _ ⟨aZ,x,y,R,Jo3,Fct,Fct⟩<|KM R) (λeJ h=>Jx R<|Jk3<|Je3 R U120 R Z30<|Jc3 R I30 ((dV.stp<|a5.tr b4).ld 1 R R)<|Jn 1 R<|Ji4 aZ 20 [k] R Y30 bS R λff e8 _ da _ d1=>Tv<|Ob h λcW eR h=>Jd4 da E6 14 [] R Y30 bS R Fct (FY (cd _) d1.rdc) bU eR R λbb bc _ bM _ _=>Tv<|Je3 R U120 R Z30<|Jz3 bM 12 (off:=1) (vc:=[.slice bb cW.length bc]) (cs':=[.slice C ac.length B,.slice bb cW.length bc]) R Z30 R Fct R λ_ _ d3=>Tv<|Jo<|Oh h<|Jw1 _ ⟨bM,bb,bc,R,Fct,Fct,d3⟩<|KM R)
 rintro _ _ ⟨c8,aA,aw,rfl,_,dZ,d0⟩
 refine have h:=ej;Jz (Jp<|Jg3 R ?_)
 have eM:FW .i64 (k+1)=k+1:=wr1 em (Jn2 aR) bo.len_le
 rw[eM]
 exact have aR:=Jn2 aR;Ou h bv (λbv=>Ja2 ⟨c8,k+1,(ac,bA),C,B,aA,aw,R,Fct,Fct,dZ,d0,by omega,by omega,bv⟩ R)
 rintro _ cP ⟨aW,i,P,N,V,U,rfl,de,dO,dP,dQ,rfl⟩
 refine have h:=yI eh;Jp (Jk3<|Je3 R U60 R Z58<|Jc3 R I58 ((b8.stp<|T5 bX bZ a2 a3 de).ld 1 R R)<|Jg4 tv R (Jh4 (haE dQ.cells) I120 Z120 R)<|Jb4 aW Pair.ep120 15 [13,14] (parts:=[(0,.tmp 146)]) (cells:=[.slice P i.1.length N,.slice V i.2.length U]) (xs:=([(⟨i.1,i.2⟩:Pair)]:VP)) R Y58 cQ R (Jj4 ⟨[.slice P i.1.length N],[.slice V i.2.length U],Zl aW cP [13],Zl aW cP [14],R,Zl.sp (l1:=[13]) (l2:=[14]) R,Zl.sr (l1:=[13]) (l2:=[14]),⟨_,_,R,dO⟩,⟨_,_,R,dP⟩⟩) λfd e9 _ db _ d4=>Tv<|Ob h λbC eS h=>Jd4 db Pair.ep120 9 [15] R Y58 cQ R Fct d4.src (c9 R) eS R λbh bi _ bN _ _=>Tv<|Je3 R U60 R Z58<|Jz3 bN 6 (off:=1) (vc:=[.slice bh bC.length bi]) (cs':=[.slice n f.2.2.length m,.slice bh bC.length bi]) R Z58 R Fct R λ_ _ d5=>Tv<|Jo<|Jz<|Jp<|Jg3 R ?_)
 have eL:FW .i64 (s+1)=s+1:=wr1 el (Jn2 aQ) bs.len_le
 rw[eL]
 exact have aQ:=Jn2 aQ;Ou h bu (λbu=>Ja2 ⟨bN,s+1,bC,bh,bi,R,Fct,Fct,d5,by omega,by omega,bu⟩ R)
 rintro _ _ ⟨c4,af,ap,aM,rfl,_,dH,dI,rfl⟩
 exact have h:=yI eg;Jz (Jp<|Jg3 R<|wr2 cr aP bm.len_le ▸ (Ou h bt (λbt=>Ja2 ⟨c4,u+1,af,ap,aM,R,Fct,dH,dI,nxz cr,nxm aP,bt⟩ R)))
 rintro _ _ ⟨bF,aT,aJ,aE,rfl,_,_,dB,rfl⟩
 exact have h:=yI ef;Jp (Jj3<|Jg4 tv R (Jh4 (haE dB.cells) I60 Z60 R)<|Jm4 bF 4 R Z60 R Fct R λ_ _ d6=>Tv<|Jb 1 R<|Ju<|Jb2 (l:=[.cell 4 60,.tmp 5]) results108 (cc R d6 I60 Z60 R<|Jq2 R R) R<|Oh h<|⟨(λdi=>ren [(7,2),(9,3)]<|bF di),n,m,aJ,aE,R,Fct,Fct,Fct⟩)
theorem eB {a c}{p0:VI}{c1_0:Int}{b}(f:Rd Ri J w 0 a c p0) (g:Bc J w 0 b 2 [vi c1_0]){r:Bool}(h:cD p0 c1_0=some r):Ret prog 138 [.slice a p0.length c,.func (.func 198) #[] #[.pointer (some ⟨b,0,none⟩)]] w (Pvb J w r):=by
 exact Jp3 J func138 R ntmps138 R λi=>Jf3 R<|Jl3 2 R<|Ob h λ_ e h=>Jw3 R call117 (eV (J:=Mk J) Gct Fct e)<|Ki λ_ d _=>Tv<|Jb 2 R<|Ju<|Jb2 (l:=[.tmp 4]) results138 (Jq2 R R) R<|Oh h<|⟨d,R,Fct⟩
theorem sI {I Q}{p0:VP}{K S}{p1:VI}{p2:Int}(L:Rd Pair.rp J w 0 I Q p0) (C:Rd Ri J w 0 K S p1){r:VI}(h:kr p0 p1 p2=some r):Ret prog 181 [.slice I p0.length Q,.slice K p1.length S,vi p2] w (Pvs E6 2 J w r):=by
 refine Jp3 J func181 R ntmps181 R λaV=>Jf3 R<|Jj3<|Jc4 J E6 2 R Y30 bS R λaf ae _ W G _=>Tv<|Jc4 W E6 3 R Y30 bS R λad ag T x H aA=>Tv<|Jb 2 R<|Jq<|Jl3 1 R<|Js3 R U30 R R<|Jb 1 R<|Ob h λP aE aB=>Jx1 (λg a=>∃b,∃e:VI×VI,∃B y A z,g=[(7,.slice B e.1.length y),(8,.slice A e.2.length z)]/\Stp [2,3] x T b a/\Oc E6 2 b a 2 B y e.1/\Oc E6 2 b a 3 A z e.2/\P=FX e) (Jv<|Ju3 [0,2,13,14] (λn u g a=>∃b f,∃c:VI×VI,∃i j k m,g=(7,.slice i c.1.length j)::(8,.slice k c.2.length m)::(15,vi f)::u/\Stp [2,3] x T b a/\Oc E6 2 b a 2 i j c.1/\Oc E6 2 b a 3 k m c.2/\0<=f/\FV ((p1.length:Int)-f)=n/\cntM (ij p0 p1 p2) n f c=some P) ⟨_,_,⟨x,0,(([]:VI),([]:VI)),af,ae,ad,ag,R,Jo3,Fct,aA,(by decide),(by simp),aE⟩,(KM R)⟩ ?_) ?_
 rintro n _ _ ⟨E,f,c,i,j,k,m,rfl,F,ap,aq,M,t,h⟩
 rcases n with _|n
 exact Jf3 R<|Jq<|Jx2 R (dcf t)<|Jc1<|Jt<|Jt<|Jb1<|Oh h<|Jw1 _ ⟨E,(c.1,c.2),i,j,k,m,R,Fct,ap,aq,R⟩<|KM R
 refine Ob h λaW h D=>Jf3 R<|Jq<|Jw2 R (dct t)<|Js<|Jp<|Jq<|Jv<|Jj3<|Ob h λU N h=>Jd3 R C N U30 Z2<|Jc3 R I2 ((C.stp<|T3 G H F).gInt N)<|Jb 1 R<|Jl3 2 R<|Ob h λ_ O h=>Jd3 R L O U58 Z120<|Je3 R U120 R Z30 ?_
 obtain⟨_,aF,aD⟩:=((L.stp (T3 G H F))).gSt O
 obtain⟨aQ,aX,aR,aY,rfl,aT,aU⟩:=Pair.un aF
 refine Jc3 R I30 (λa aH=>aD a aH 1 _ R)<|Jn 1 R<|Ob h λaZ aI h=>Jw3 R C135 (ch (J:=Mk E) Gct aI)<|Kb λaM v _=>Tv<|Jd<|Ob h λd h aC=>Jt3 [0,2,13,14,15] (λu g a=>∃b p o q s,g=(7,.slice p d.1.length o)::(8,.slice q d.2.length s)::u/\Stp [2,3] v aM b a/\Oc E6 2 b a 2 p o d.1/\Oc E6 2 b a 3 q s d.2) ?_ ?_
 exact Bk h (λaG h=>Jy R<|Jm3 2 R<|Ji4 v 6 [U] R Y30 bS R λaP aS _ aa _ ax=>Tv<|Ob h λ_ aK h=>Jd4 aa E6 3 [] R Y30 bS R Fct (FY (cd _) ax.rdc) bU aK R λam aj _ ab _ ay=>Tv<|Jc 1 R<|Oh h<|Jw1 _ ⟨ab,i,j,am,aj,R,Fct,Fct,ay⟩<|KM R) (λaG h=>Jx R<|Jm3 2 R<|Ji4 v 6 [U] R Y30 bS R λaN aO _ Y _ av=>Tv<|Ob h λ_ aJ h=>Jd4 Y E6 2 [] R Y30 bS R Fct (FY (cd _) av.rdc) bU aJ R λah ak _ Z _ aw=>Tv<|Jc 1 R<|Oh h<|Jw1 _ ⟨Z,ah,ak,k,m,R,Fct,aw,Fct⟩<|KM R)
 rintro _ _ ⟨X,p,o,q,s,rfl,_,ar,au⟩
 exact have h:=aC;Jz (Jp<|Jg3 R<|wr2 M t C.len_le ▸ (Ou h D (λD=>Ja2 ⟨X,f+1,(d.1,d.2),p,o,q,s,R,Fct,ar,au,nxz M,nxm t,D⟩ R)))
 rintro _ _ ⟨V,e,B,y,A,z,rfl,_,an,ao,rfl⟩
 exact have h:=yI aB;Jp (Jl3 2 R<|Ob h λ_ aL h=>Jd4 V E6 2 [] R Y30 bS R an (FY (cd _) ao.rdc) bU aL R λal ai _ ac _ az=>Tv<|Jb 1 R<|Ju<|Jb2 (l:=[.tmp 6]) results181 (Jq2 R R) R<|Oh h<|⟨ac,al,ai,R,Fct,az⟩)
theorem pJ {s x v t q u}{p0:Parity}(Y:Rd Ri J w 0 s x p0.Arena.Owner) (Z:Rd Rs J w 0 v t p0.Arena.Next) (j:Rd Ri J w 0 q u p0.Prio){r:Bool}(h:kS p0=some r):Ret prog 70 [.agg #[.slice s p0.Arena.Owner.length x,.slice v p0.Arena.Next.length t,.slice q p0.Prio.length u]] w (Pvb J w r):=by
 refine Jp3 J func70 R ntmps70 R λaa=>Jj3<|Jx3 J 2 R λ_ _ G I i=>Tv<|Jb 1 R<|Jq<|Jj3<|Je3 R U55 R Z53<|Jg4 tv R (Jh4 (haE<|i.lds 0 2 R) I53 Z53 R)<|Ob h λad T h=>Jw3 R call127 (qq (J:=Mk G) (p0:=p0.Arena) Gct Gct T)<|Kb λX F g=>Tv<|Jn 2 R<|Ob h λU h L=>Jk4 [1] 18 U F X 9 tv ?_ ?_
 exact Bk h (λO h=>Je3 R U55 R Z30 (have y:=i.stp g;Jc3 R I30 (y.ld 2 R R) (Js3 R U30 R R<|Je3 R U55 R Z53<|Je3 R U53 R Z30<|Jc3 R I30 (y.ld 0 R R)<|Js3 R U30 R R<|Jn 2 R<|Oh h<|Jl4 tv R))) (λO h=>Jn 1 R<|Je4 R<|Jn 3 R<|Je4 R<|Jn 3 R<|Oh h<|Jl4 tv R)
 rintro _ D _ ⟨rfl,d,p⟩
 refine have h:=L;Jd ?_
 refine Bk h (λP h=>Jy R<|Js<|Jp<|Jq<|Jj3<|Je3 R U55 R Z30<|Jc3 R I30 ((i.stp<|g.tr p).ld 2 R R)<|Js3 R U30 R R<|Jb 1 R<|Ob h λC N z=>Jx1 (λf k=>∃m,f=[]/\Stp [] d D m k/\C=FX ()) (Jv<|Ju3 [20,21] (λc E f k=>∃m b,f=(22,vi b)::E/\Stp [] d D m k/\0<=b/\FV ((p0.Prio.length:Int)-b)=c/\cntM (jI p0) c b ()=some C) ⟨_,_,⟨d,0,R,Jo3,(by decide),(by simp),N⟩,(KM R)⟩ ?_) ?_) (λP h=>Jx R<|Jf3 R<|Ju<|Jw<|Jb2 (l:=[.tmp 2]) results70 (Jq2 R R) R<|Oh h<|⟨d,R,Fct⟩)
 rintro c _ W ⟨n,b,rfl,K,A,e,h⟩
 rcases c with _|c
 exact Jf3 R<|Jq<|Jx2 R (dcf e)<|Jc1<|Jt<|Jt<|Jb1<|Oh h<|Jw1 _ ⟨n,R,Fct,R⟩ KN
 refine Ob h λab h a=>Jf3 R<|Jq<|Jw2 R (dct e)<|Js<|Jp<|Jq<|Jv<|Jj3<|Ob h λac B h=>Jd3 R j B U30 Z2<|Jc3 R I2 ((j.stp<|T4 I g p K).gInt B)<|Jb 1 R<|Jl3 3 R<|Ob h λV h M=>Jk4 [20,21,22] 31 V n W 3 tv ?_ ?_
 exact Bk h (λQ h=>Jn 3 R<|Oh h<|Jl4 tv R) (λQ h=>Jn 3 R<|Oh h<|Jl4 tv R)
 rintro _ _ _ ⟨rfl,o,_⟩
 refine have h:=M;Jd ?_
 exact Bk h (λS h=>Jy R<|Js<|Jz<|Jp<|Jg3 R<|wr2 A e j.len_le ▸ (Ou h a (λa=>Ja2 ⟨o,b+1,R,Fct,nxz A,nxm e,a⟩ R))) (λS h=>Jx R<|Jf3 R<|Ju<|Ja1<|Jw<|Jw<|Ou h a (λa=>Ov a z (λh=>Ja1<|Jr2<|Jw<|Jb2 (l:=[.tmp 2]) results70 (Jq2 R R) R<|Oh h<|⟨o,R,Fct⟩)))
 rintro _ _ ⟨H,rfl,_,rfl⟩
 exact have h:=yI z;Jp (Jf3 R<|Ju<|Jb2 (l:=[.tmp 2]) results70 (Jq2 R R) R<|Oh h<|⟨H,R,Fct⟩)
theorem fh {q E}{p0:VI}{t s}{c1_0:VL}{g:Int}{i:Int}{c1_3:Sig}{j:Int}{u v x y z}(k:Rd Ri J w 0 q E p0) (M:Rd Place.rp J w 0 t s c1_0) (N:Bc J w 0 u 126 [.slice t c1_0.length s]) (O:Bc J w 0 v 2 [vi g]) (P:Bc J w 0 x 2 [vi i]) (Q:Bc J w 0 y 39 [vi c1_3.In,vi c1_3.Out]) (S:Bc J w 0 z 2 [vi j]){r:Int}(h:cA p0 c1_0 g i c1_3 j=some r):Ret prog 117 [.slice q p0.length E,.func (.func 118) #[] #[.pointer (some ⟨u,0,none⟩),.pointer (some ⟨v,0,none⟩),.pointer (some ⟨x,0,none⟩),.pointer (some ⟨y,0,none⟩),.pointer (some ⟨z,0,none⟩)]] w (Pvi J w r):=by
 refine Jp3 J func117 R ntmps117 R λT=>Jf3 R<|Jq<|Jl3 1 R<|Js3 R U30 R R<|Jb 1 R<|Ob h λD I A=>Jt3 [1] (λe f m=>∃n,f=e/\Stp [] J w n m/\D=FX ()) (Jv<|Ju3 [0,1,7] (λc e f m=>∃n b,f=(8,vi b)::e/\Stp [] J w n m/\0<=b/\FV ((p0.length:Int)-b)=c/\cntM (cG p0 c1_0 g i c1_3 j) c b ()=some D) ⟨_,_,⟨J,0,R,Jo3,(by decide),(by simp),I⟩,(KM R)⟩ ?_) ?_
 rintro c _ _ ⟨p,b,rfl,G,B,d,h⟩
 rcases c with _|c
 exact Jf3 R<|Jq<|Jx2 R (dcf d)<|Jc1<|Jt<|Jt<|Jb1<|Oh h<|Jw1 _ ⟨p,R,Fct,R⟩<|KM R
 refine Ob h λU h a=>Jf3 R<|Jq<|Jw2 R (dct d)<|Js<|Jp<|Jq<|Jv<|Jf3 R<|Jl3 3 R<|Ob h λ_ C h=>Jd3 R k C U30 Z2<|Jc3 R I2 ((k.stp G).gInt C)<|Ob h λV L h=>WO.callV R R R R R R R R call118 (ro (J:=Mk p) (c3:=c1_3) Gct Fct Fct Fct Fct Fct L) ?_
 rintro _ _ ⟨_,rfl,H⟩
 refine Im H 2 R (λo _ _=>Tv<|Jd ?_)
 exact Bk h (λK h=>Jy R<|Js<|Jz<|Jp<|Jg3 R<|wr2 B d k.len_le ▸ (Ou h a (λa=>Ja2 ⟨o,b+1,R,Fct,nxz B,nxm d,a⟩ R))) (λK h=>Jx R<|Jf3 R<|Ju<|Ja1<|Jw<|Jw<|Ou h a (λa=>Ov a A (λh=>Ja1<|Jr2<|Jw<|Jb2 (l:=[.tmp 4]) V117 (Jq2 R R) R<|Oh h<|⟨o,R,Fct⟩)))
 rintro _ _ ⟨F,rfl,_,rfl⟩
 exact have h:=yI A;Jp (Jf3 R<|Ju<|Jb2 (l:=[.tmp 4]) V117 (Jq2 R R) R<|Oh h<|⟨F,R,Fct⟩)
end
end Go.Proofs.YtldlmopdhmaceaaGreatDoor
