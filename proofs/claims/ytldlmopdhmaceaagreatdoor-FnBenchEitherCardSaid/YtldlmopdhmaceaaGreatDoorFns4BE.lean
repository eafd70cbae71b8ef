/- The walks, part 4. By program. -/
import Derived.Test.YtldlmopdhmaceaaGreatDoorFns2BE
import Derived.Test.YtldlmopdhmaceaaGreatDoorFns3BE
set_option linter.unusedVariables false
set_option linter.unusedSimpArgs false
open Go.Wk.Ep renaming own → FU, pair → F0
open Int renaming toNat → FV
open Go.IntKind renaming wrap → FW
open Go.Wk.Ow renaming nil → FZ
open Go.Wk.Sl renaming srcP → FY
open Sum renaming inr → FX
namespace Go.Proofs.YtldlmopdhmaceaaGreatDoor
open Tryz
open Go Go.Wk Go.Proofs
set_option maxRecDepth 100000
set_option maxHeartbeats 1000000
section
variable {w:World}{J:Col}
theorem uR {f m}{p0:dice}{n}(af:Rd (Rp.int .u8) J w 0 f m p0.b) (az:Bc J w 2 n 41 [.slice f p0.b.length m,vi p0.i,.int .u64 p0.h]){r:Clause×Int×Int}(h:nj p0=some r):Ret prog 13 [.pointer (some ⟨n,0,none⟩)] w (λau b=>∃c C E D F,au= .agg #[vi r.1.Kind,.slice C r.1.A.length E,.slice D r.1.B.length F]/\Ent J w c b/\Oc E6 2 c b 3 C E r.1.A/\Oc E6 2 c b 4 D F r.1.B/\Bc c b 2 n 41 [.slice f p0.b.length m,vi r.2.1,.int .u64 r.2.2]):=by
 refine Jp3 J func13 R ntmps13 R λaA=>Jj3<|Jy3 J 3 R X32 R λ_ _ K P _=>Tv<|Jd<|Jl3 1 R (Ob h λd an h=>have z:=af.stp P;Jw3 R call12 (kh (J:=λa=>mp [(2,2)] 0<|K a) (p0:=p0) (Jm2 z (mp [(2,2)] 0) R R) Fct an) ?_)
 rintro _ _ ⟨_,rfl,W,X⟩
 refine Im W 4 R (λI O ap=>Tv<|Jn 2 R<|Ob h λe ao h=>Jw3 R call23 (tT (J:=λa=>mp [(6,2)] 0<|I a) (p0:=(⟨p0.b,d.2.1,d.2.2⟩:dice)) (Jm2 (z.stp O) (mp [(6,2)] 0) R R) ((X.mx ap R (R:4+2=6)).map (mp [(6,2)] 0) R R) ao) ?_)
 rintro _ _ ⟨_,j,k,rfl,U,Y,Z⟩
 refine Im U 7 R (λL _ A=>Tv<|have ay:=Z.mx A R (R:7+2=9);Jf R (Jn4 [vi (FW .i64 (1+d.1)),.slice j e.1.length k,.slice none 0 0] R) (Jy3 L 11 R X32 R λT _ v _ aa=>Tv<|Jm4 v 11 R Z32 R aa R λav _ u=>Tv<|Jd<|Jq<|Jj3<|Je3 R U32 R Z2<|Jc3 R I2 (u.ld 0 R R)<|Jn 2 R<|Ob h λaq h ag=>Jk4 [0,2,3] 17 aq v av 4 tv ?_ ?_))
 exact Bk h (λaj h=>Je3 R U32 R Z2<|Jc3 R I2 (u.ld 0 R R)<|Jn 2 R<|Oh h<|Jl4 tv R) (λaj h=>Jn 1 R<|Je4 R<|Jn 2 R<|Oh h<|Jl4 tv R)
 rintro _ aw _ ⟨rfl,M,Q⟩
 refine Jn 1 R<|Ob ag λar h ah=>Jk4 [0,2,3] 22 ar M aw 4 tv ?_ ?_
 exact Bk h (λak h=>Je3 R U32 R Z2<|Jc3 R I2 ((u.stp Q).ld 0 R R)<|Jn 2 R<|Oh h<|Jl4 tv R) (λak h=>Jn 1 R<|Je4 R<|Jn 2 R<|Oh h<|Jl4 tv R)
 rintro _ ax _ ⟨rfl,p,_⟩
 refine Jd<|Ob ah λo h ai=>Jt3 [0,2,3] (λH N b=>∃c i g,N=H/\Stp [9,11,14,15] p ax c b/\Oc E6 2 c b 12 i g o.2.2/\Bc c b 9 n 41 [.slice f p0.b.length m,vi o.1,.int .u64 o.2.1]/\Bc c b 11 T 32 [vi (FW .i64 (1+d.1)),.slice j e.1.length k,.slice i o.2.2.length g]) ?_ ?_
 refine Bk h (λal h=>Jy R<|Js<|Oh h<|Jw1 _ ⟨p,none,0,R,Jo3,FZ,Fct,Fct⟩<|KM R) (λal h=>Jx R<|Jm3 1 R<|Ob h λG am h=>Jw3 R call23 (tT (J:=λa=>mp [(9,2)] 0<|p a) (p0:=(⟨p0.b,e.2.1,e.2.2⟩:dice)) (Jm2 Fct (mp [(9,2)] 0) R R) Fct am) ?_)
 rintro _ _ ⟨_,t,s,rfl,V,ac,ad⟩
 exact Im V 12 R (λy S B=>Tv<|Je3 R U32 R Z30<|Jz3 y 11 (off:=2) (vc:=[.slice t G.1.length s]) (cs':=[vi (FW .i64 (1+d.1)),.slice j e.1.length k,.slice t G.1.length s]) R Z30 R Fct R λ_ q _=>Tv<|Jo<|Oh h<|Jw1 _ ⟨(λa=>ren [(15,12),(14,9)]<|y a),t,s,R,(Jz2 ((S.tr q).wk R) [(15,12),(14,9)] R),(((ac.mx (bW _) B R (R:12+3=15)).stp q).map (ren [(15,12),(14,9)]) R R),(((ad.mx B R (R:12+2=14)).stp q).map (ren [(15,12),(14,9)]) R R),Fct⟩<|KM R)
 rintro _ _ ⟨x,i,g,rfl,_,_,_,ab⟩
 exact have h:=ai;Jp (Jj3<|Jg4 tv R (Jh4 (haE ab.cells) I32 Z32 R)<|Jm4 x 3 R Z32 R Fct R λ_ _ ae=>Tv<|Jd<|Ju<|Jb2 (l:=[.cell 2 32]) results13 (cc R ae I32 Z32 R R) R<|Oh h<|⟨(λa=>ren [(10,3),(12,4),(9,2)]<|x a),j,k,i,g,R,Fct,(((Y.mx (bW _) A R (R:7+3=10)).stp Fct).map (ren [(10,3),(12,4),(9,2)]) R R),Fct,Fct⟩)
theorem gv {p0:Sig}  {r:Int}(h:d6 p0=some r):Ret prog 26 [.agg #[vi p0.In,vi p0.Out]] w (Pvi J w r):=by
 refine Jp3 J func26 R ntmps26 R λk=>Jj3<|Jx3 J 2 R λ_ _ e _ c=>Tv<|Jb 1 R<|Jq<|Jj3<|Jg4 tv R (Jh4 (haE c.cells) I39 Z39 R)<|Ob h λm j h=>Jw3 R call24 (lr (J:=Mk e) (p0:=p0) j)<|Kb λ_ a f=>Tv<|Jb 1 R ?_
 exact Bk h (λg h=>Jy R<|Js<|Jp<|Jj3<|Je3 R U39 R Z2 (have b:=c.stp f;Jc3 R I2 (b.ld 0 R R) (Je3 R U39 R Z2<|Jc3 R I2 (b.ld 1 R R)<|Jn 1 R<|Ob h λ_ i h=>Jw3 R call47 (fH (J:=Mk a) i)<|Ki λ_ d _=>Tv<|Jb 1 R<|Ju<|Jb2 (l:=[.tmp 2]) results26 (Jq2 R R) R<|Oh h<|⟨d,R,Fct⟩))) (λg h=>Jx R<|Jf3 R<|Ju<|Jw<|Jb2 (l:=[.tmp 2]) results26 (Jq2 R R) R<|Oh h<|⟨a,R,Fct⟩)
theorem em {o z}{p0:VL}{c1_0:Int}{q p}{d:VI}{s t}(i:Rd Place.rp J w 0 o z p0) (M:Rd Ri J w 0 q p d) (N:Bc J w 0 s 2 [vi c1_0]) (O:Bc J w 0 t 30 [.slice q d.length p]){r:Int}(h:cC p0 c1_0 d=some r):Ret prog 262 [.slice o p0.length z,.func (.func 263) #[] #[.pointer (some ⟨s,0,none⟩),.pointer (some ⟨t,0,none⟩)]] w (Pvi J w r):=by
 refine Jp3 J func262 R ntmps262 R λP=>Jf3 R<|Jq<|Jl3 1 R<|Js3 R U126 R R<|Jb 1 R<|Ob h λy E u=>Jt3 [1] (λf g j=>∃k,g=f/\Stp [] J w k j/\y=FX ()) (Jv<|Ju3 [0,1,7] (λc f g j=>∃k b,g=(8,vi b)::f/\Stp [] J w k j/\0<=b/\FV ((p0.length:Int)-b)=c/\cntM (cz p0 c1_0 d) c b ()=some y) ⟨_,_,⟨J,0,R,Jo3,(by decide),(by simp),E⟩,(KM R)⟩ ?_) ?_
 rintro c _ _ ⟨n,b,rfl,B,v,e,h⟩
 rcases c with _|c
 exact Jf3 R<|Jq<|Jx2 R (dcf e)<|Jc1<|Jt<|Jt<|Jb1<|Oh h<|Jw1 _ ⟨n,R,Fct,R⟩<|KM R
 refine Ob h λQ h a=>Jf3 R<|Jq<|Jw2 R (dct e)<|Js<|Jp<|Jq<|Jv<|Jf3 R<|Jl3 3 R<|Ob h λI x h=>Jd3 R i x U126 Z149 ?_
 obtain⟨_,F,D⟩:=((i.stp B)).gSt x
 obtain⟨K,S,rfl,L⟩:=Place.un F
 refine Jg4 tv R (Jh4 (haE D) I149 Z149 R)<|Ob h λT H h=>WO.callV R R R R R R R R call263 (tO (J:=Mk n) (p0:=I) Gct Gct Fct Fct H) ?_
 rintro _ _ ⟨_,rfl,C⟩
 refine Im C 2 R (λm _ _=>Tv<|Jd ?_)
 exact Bk h (λG h=>Jy R<|Js<|Jz<|Jp<|Jg3 R<|wr2 v e i.len_le ▸ (Ou h a (λa=>Ja2 ⟨m,b+1,R,Fct,nxz v,nxm e,a⟩ R))) (λG h=>Jx R<|Jf3 R<|Ju<|Ja1<|Jw<|Jw<|Ou h a (λa=>Ov a u (λh=>Ja1<|Jr2<|Jw<|Jb2 (l:=[.tmp 4]) results262 (Jq2 R R) R<|Oh h<|⟨m,R,Fct⟩)))
 rintro _ _ ⟨A,rfl,_,rfl⟩
 exact have h:=yI u;Jp (Jf3 R<|Ju<|Jb2 (l:=[.tmp 4]) results262 (Jq2 R R) R<|Oh h<|⟨A,R,Fct⟩)
theorem qw {B E C D}{p0:Arena}{A Q}{p1:VI}(aH:Rd Ri J w 0 B E p0.Owner) (aI:Rd Rs J w 0 C D p0.Next) (t:Rd Ri J w 0 A Q p1){r:Arena}(h:pa p0 p1=some r):Ret prog 264 [.agg #[.slice B p0.Owner.length E,.slice C p0.Next.length D],.slice A p1.length Q] w (λaB a=>∃b M O N P,aB= .agg #[.slice M r.Owner.length O,.slice N r.Next.length P]/\Ent J w b a/\Oc E6 2 b a 2 M O r.Owner/\Oc (FU E6 2) 30 b a 3 N P r.Next):=by
 refine Jp3 J func264 R ntmps264 R λaJ=>Jj3<|Jx3 J 2 R λ_ _ U ac al=>Tv<|Jy3 U 3 R X53 R λ_ _ X z _=>Tv<|Jd<|Jj3<|Jg4 tv R (Jh4 (haE (al.stp z).cells) I53 Z53 R)<|Ob h λi aA h=>Jw3 R call201 (tF (J:=Mk X) (p0:=p0) Gct Gct aA) ?_
 rintro _ _ ⟨_,ae,af,m,n,rfl,ah,ai,aj⟩
 refine Im ah 4 R (λT Z K=>Tv<|Jy3 T 8 R X53 R λ_ _ j aa ak=>Tv<|Jm4 j 8 R Z53 R ak R λS ab F=>Tv<|Jd<|Jq<|Jl3 1 R<|Js3 R U30 R R<|Jb 1 R<|Ob h λL ax aq=>Jt3 [4,5] (λc e a=>∃b,∃q:VV,e=c/\Stp [7,9] j S b a/\Oc (FU E6 2) 30 b a 7 m n q/\i.Next.length=q.length/\L=FX q) (Jv<|Ju3 [4,5,10,11] (λf c e a=>∃b d,∃g:VV,e=(12,vi d)::c/\Stp [7,9] j S b a/\Oc (FU E6 2) 30 b a 7 m n g/\i.Next.length=g.length/\0<=d/\FV ((p1.length:Int)-d)=f/\cntM (kp p1) f d g=some L) ⟨_,_,⟨j,0,i.Next,R,Jo3,((aj.mx (cF (bW _) _) K R (R:4+3=7)).stp Fct),R,(by decide),(by simp),ax⟩,(KM R)⟩ ?_) ?_)
 rintro f _ aC ⟨k,d,g,rfl,y,s,p,G,o,h⟩
 rcases f with _|f
 exact Jf3 R<|Jq<|Jx2 R (dcf o)<|Jc1<|Jt<|Jt<|Jb1<|Oh h<|Jw1 _ ⟨k,g,R,Fct,s,p,R⟩<|KM R
 refine Ob h λaK h u=>Jf3 R<|Jq<|Jw2 R (dct o)<|Js<|Jp<|Jq<|Jv<|Jl3 1 R<|Ob h λaD H h=>Jd3 R t H U30 Z2<|Jc3 R I2 ((t.stp<|T6 ac z Z aa ab y).gInt H)<|Jb 2 R<|Jf3 R<|Ob h λv h ar=>Jt3 [4,5,10,11,12] (λc e a=>∃b,e=c/\Stp [7,9] k aC b a/\Oc (FU E6 2) 30 b a 7 m n v/\i.Next.length=v.length) ?_ ?_
 exact Bk h (λay h=>Jy R<|Js<|Oh h<|Jw1 _ ⟨k,R,Jo3,s,p⟩<|KM R) (λay h=>Jx R<|Jk3<|Je3 R U53 R Z51<|Jc3 R I51 ((F.stp y).ld 1 R R)<|Jn 2 R<|Ji4 k 9 [aD] R Y30 bS R λaF aG _ W _ an=>Tv<|Ob h λ_ az h=>Jf R (Jg2 s.rdc az U51 Z30 R R p R) (Ob h λaE I h=>Jk1 (J:=W) (E:=(FU E6 2)) 7 [9] R R R R R R R R Z30 R ⟨_,_,R,an⟩ R R Fct I λ_ Y _ ao=>Tv<|have aw:i.Next.length=aE.length:=p.trans (Ju2 I).2.2.2.symm;Jo (Oh h<|Jw1 _ ⟨Y,R,Fct,ao,aw⟩<|KM R)))
 rintro _ _ ⟨V,rfl,_,am,av⟩
 exact have h:=ar;Jz (Jp<|Jg3 R<|wr2 G o t.len_le ▸ (Ou h u (λu=>Ja2 ⟨V,d+1,v,R,Fct,am,av,nxz G,nxm o,u⟩ R)))
 rintro _ _ ⟨x,q,rfl,ad,_,au,rfl⟩
 exact have h:=yI aq;Jp (Jj3<|Jg4 tv R (Jh4 (haE (F.stp ad).cells) I53 Z53 R)<|Jm4 x 3 R Z53 R Fct R λ_ _ ap=>Tv<|Jd<|Ju<|Jb2 (l:=[.cell 4 53]) results264 (cc R ap I53 Z53 R R) R<|Oh h<|⟨(λag=>ren [(6,2),(7,3)]<|x ag),ae,af,m,n,(by simp only[au]),Fct,(((ai.mx (bW _) K R (R:4+2=6)).stp Fct).map (ren [(6,2),(7,3)]) R R),Fct⟩)
theorem wj {p0:Sig}{co cm cn cu}{p1:Machine}{cq bn ct cr}{p2:Det}(cI:Rd Rs J w 0 co cm p1.Next) (cJ:Rd Rs J w 0 cn cu p1.Out) (cK:Rd Rs J w 0 cq bn p2.Next) (bC:Rd Pair.rp J w 0 ct cr p2.Pairs){r:(Option watch)×Bool}(h:pg p0 p1 p2=some r):Ret prog 189 [.agg #[vi p0.In,vi p0.Out],.agg #[.slice co p1.Next.length cm,.slice cn p1.Out.length cu],.agg #[.slice cq p2.Next.length bn,.slice ct p2.Pairs.length cr]] w (λi a=>∃b c4 c8 c5 da c6 db c7,i= .tuple #[.pointer (bif r.1.isSome then some ⟨c7,0,none⟩ else none),.bool r.2]/\Ent J w b a/\Oc (FU E6 2) 30 b a 2 c4 c8 ((r.1.getD (⟨([]:VV),([]:VV),([]:VP)⟩:watch)).next)/\Oc (FU E6 2) 30 b a 3 c5 da ((r.1.getD (⟨([]:VV),([]:VV),([]:VP)⟩:watch)).letters)/\Oc Pair.ep120 120 b a 4 c6 db ((r.1.getD (⟨([]:VV),([]:VV),([]:VP)⟩:watch)).pairs)/\(r.1.isSome=true->Bc b a 5 c7 210 [.slice c4 ((r.1.getD (⟨([]:VV),([]:VV),([]:VP)⟩:watch)).next).length c8,.slice c5 ((r.1.getD (⟨([]:VV),([]:VV),([]:VP)⟩:watch)).letters).length da,.slice c6 ((r.1.getD (⟨([]:VV),([]:VV),([]:VP)⟩:watch)).pairs).length db])):=by
 refine Jp3 J func189 R ntmps189 R λf0=>Jj3<|Jx3 J 2 R λ_ _ dA aG eM=>Tv<|Jx3 dA 3 R λ_ _ dN ah eS=>Tv<|Jx3 dN 4 R λ_ di a9 V cw=>Tv<|Jb 2 R<|Jj3<|Jf R (Jn4 [vi 0,vi 0] R)<|Jb4 a9 (F0 E6 E6) 5 [] (parts:=[(0,.tmp 27)]) (cells:=[vi 0,vi 0]) (xs:=([(0,0)]:List (Int×Int))) R Y188 iy R (Jj4 ⟨[vi 0],[vi 0],Zl a9 di [],Zl a9 di [],R,Zl.sp (l1:=[]) (l2:=[]) R,Zl.sr (l1:=[]) (l2:=[]),R,R⟩) λd7 d2 _ ds B _=>Tv<|Jb 1 R<|Jj3<|WO.mkmap (J:=ds) 6 R R R R R kwI2 kvI2 (λi:Int=>vi i) λaw _ bV C en=>Tv<|Jf R (Jn4 [vi 0,vi 0] R)<|Ob h λfP fC h=>WO.mapin (J:=bV) (kf:=kvI2) (vf:=(λi:Int=>vi i)) (v:=0) 6 R R R R R R R y6 U252 en fC λ_ D _=>Tv<|Jb 2 R<|Jj3<|Jf R (Jn4 [.slice none 0 0,.slice none 0 0,.slice none 0 0] R)<|Jx3 bV 7 R λac dd bd E et=>Tv<|Jb 1 R<|Jq<|Jf3 R<|Ob h λc1 fe cO=>Jt3 [5,10] (λc d a=>∃(b:Col) (j:(List<|Int×Int)×Int×VV×VV×(List ((Int×Int)×Int))) (bu:Option Addr) (bv:Nat) (M:Option Addr) (P:Nat) (O:Option Addr) (L:Nat),d=(8,.slice bu j.1.length bv)::c/\Stp [5,6,7,8,9,10,11,12,13,14] bd dd b a/\Oc (F0 E6 E6) 187 b a 5 bu bv j.1/\Oc (FU E6 2) 30 b a 8 M P j.2.2.1/\Oc (FU E6 2) 30 b a 9 O L j.2.2.2.1/\Mc kwI2 kvI2 (λi:Int=>vi i) b a 6 aw j.2.2.2.2/\Bc b a 7 ac 210 [.slice M j.2.2.1.length P,.slice O j.2.2.2.1.length L,.slice none 0 0]/\c1=FX j) (Jv<|Ju3 [3,4,5,9,10] (λe c d a=>∃(b:Col) (f:(List<|Int×Int)×Int×VV×VV×(List ((Int×Int)×Int))) (ak:Option Addr) (ao:Nat) (aM:Option Addr) (aP:Nat) (N:Option Addr) (S:Nat),d=(8,.slice ak f.1.length ao)::(11,vi f.2.1)::c/\Stp [5,6,7,8,9,10,11,12,13,14] bd dd b a/\Oc (F0 E6 E6) 187 b a 5 ak ao f.1/\Oc (FU E6 2) 30 b a 8 aM aP f.2.2.1/\Oc (FU E6 2) 30 b a 9 N S f.2.2.2.1/\Mc kwI2 kvI2 (λi:Int=>vi i) b a 6 aw f.2.2.2.2/\Bc b a 7 ac 210 [.slice aM f.2.2.1.length aP,.slice N f.2.2.2.1.length S,.slice none 0 0]/\ci (iY p0 p1 p2) e f=some c1) ⟨_,_,⟨bd,((([(0,0)]:List (Int×Int)):(List<|Int×Int)),(0:Int),([]:VV),([]:VV),fP),d7,d2,none,0,none,0,R,Jo3,Fct,FZ,FZ,Fct,et,fe⟩,(KM R)⟩ ?_) ?_
 rintro e _ _ ⟨bh,f,ak,ao,aM,aP,N,S,rfl,K,a2,eO,eP,eQ,cD,h⟩
 rcases e with _|e
 cases h
 refine Ob h λ_ h bF=>Jq<|Jl3 2 R<|Js3 R U188 R R<|Jb 1 R ?_
 refine Bk h (λfo h=>Jy R<|Jc1<|Jt<|Jt ?_) (λfo h=>Jx R<|Js<|Jp<|Jq<|Jv<|Jq<|Xn bh [0,5] [2,5,8,11,17,20,23,26,12,32,27,35] λ_ x=>Jn 2 R<|Ob h λfL cS h=>Jd3 R a2.rdc cS U188 Z187<|Jf R (jx U187 Z2 R R R R)<|Jn 2 R<|Ob h λfM cT h=>Jd3 R a2.rdc cT U188 Z187<|Jf R (jx U187 Z2 R R R R) ?_)
 cases h
 exact have h:=bF;Jb1 (Oh h<|Jw1 _ ⟨bh,(f.1,f.2.1,f.2.2.1,f.2.2.2.1,f.2.2.2.2),ak,ao,aM,aP,N,S,R,Fct,a2,eO,eP,eQ,cD,R⟩<|KM R)
 have cE:=a2.stp x
 obtain⟨_,fi,fa⟩:=(cE.rdc).gSt cS
 obtain⟨_,_,rfl,rfl,rfl⟩:=fi
 refine Jg R (Jd2 I2 R R<|hvC (λa bK=>fa a bK 0 _ R) R)<|Jn 1 R ?_
 obtain⟨_,fj,fb⟩:=(cE.rdc).gSt cT
 obtain⟨_,_,rfl,rfl,rfl⟩:=fj
 refine Jg R (Jd2 I2 R R<|hvC (λa bK=>fb a bK 1 _ R) R)<|Jn 1 R<|Jt1<|Jd<|Jj3<|Jc4 bh E6 10 R Y30 bS R λd8 d5 _ dM F _=>Tv<|Jc4 dM E6 11 R Y30 bS R λee d4 dh bi G eR=>Tv<|Jb 2 R<|Jq<|Jj3<|Je3 R U89 R Z51 (have cF:=eS.stp (T9 V B C D E K x F G);Jc3 R I51 (cF.ld 0 R R) (Jn 1 R<|Ob h λdl cU h=>Jd3 R cI cU U51 Z30 ?_))
 obtain⟨_,_,bB,e6⟩:=(cI.stp (T11 aG ah V B C D E K x F G)).gSl cU
 refine Jc3 R I30 e6<|Js3 R U30 R R<|Jb 1 R<|Ob h λc2 ff e1=>Jt3 [3,4,5,9,10,11] (λc d a=>∃(b:Col) (g:(List<|Int×Int)×VI×VI×(List ((Int×Int)×Int))) (aL:Option Addr) (aI:Nat) (ai:Option Addr) (ar:Nat) (ab:Option Addr) (Y:Nat),d=(8,.slice aL g.1.length aI)::(14,.slice ai g.2.1.length ar)::(15,.slice ab g.2.2.1.length Y)::c/\Stp [5,6,10,11,14] bi dh b a/\Oc (F0 E6 E6) 187 b a 5 aL aI g.1/\Oc E6 2 b a 10 ai ar g.2.1/\Oc E6 2 b a 11 ab Y g.2.2.1/\Mc kwI2 kvI2 (λi:Int=>vi i) b a 6 aw g.2.2.2/\c2=FX g) (Jv<|Ju3 [3,4,5,9,10,11,12,13,56,57] (λe c d a=>∃(b:Col) (z:Int) (n:(List<|Int×Int)×VI×VI×(List ((Int×Int)×Int))) (al:Option Addr) (ap:Nat) (aJ:Option Addr) (aS:Nat) (a0:Option Addr) (aK:Nat),d=(8,.slice al n.1.length ap)::(14,.slice aJ n.2.1.length aS)::(15,.slice a0 n.2.2.1.length aK)::(58,vi z)::c/\Stp [5,6,10,11,14] bi dh b a/\Oc (F0 E6 E6) 187 b a 5 al ap n.1/\Oc E6 2 b a 10 aJ aS n.2.1/\Oc E6 2 b a 11 a0 aK n.2.2.1/\Mc kwI2 kvI2 (λi:Int=>vi i) b a 6 aw n.2.2.2/\0<=z/\FV ((dl.length:Int)-z)=e/\cntM (iZ p0 p1 p2 fL fM dl) e z n=some c2) ⟨_,_,⟨bi,0,(f.1,([]:VI),([]:VI),f.2.2.2.2),ak,ao,d8,d5,ee,d4,R,Jo3,Fct,Fct,eR,Fct,(by decide),(by simp),ff⟩,(KM R)⟩ ?_) ?_
 rintro e _ _ ⟨bj,z,n,al,ap,aJ,aS,a0,aK,rfl,W,eT,eU,eV,cG,e4,cN,h⟩
 rcases e with _|e
 exact Jf3 R<|Jq<|Jx2 R (dcf cN)<|Jc1<|Jt<|Jt<|Jb1<|Oh h<|Jw1 _ ⟨bj,(n.1,n.2.1,n.2.2.1,n.2.2.2),al,ap,aJ,aS,a0,aK,R,Fct,eT,eU,eV,cG,R⟩<|KM R
 refine Ob h λf3 h bG=>have a5:=dct cN;Jf3 R (Jq<|Jw2 R a5<|Js<|Jp<|Jq<|Jv<|Jl3 1 R<|Ob h λa7 cV h=>Jd3 R bB cV U30 Z2<|Jc3 R I2 ((bB.stp W).gInt cV)<|Jb 2 R<|Jq<|Xn bj [0,2,3] [2,8,17,35,3,11,12,20,21,24,28,32,38,41] λ_ X=>Je3 R U89 R Z51<|Jn 3 R<|Jg R (Jd2 I51 R R<|hvC ((cF.stp<|W.tr X).ld 1 R R) R)<|Ob h λ_ cW h=>Jd3 R cJ cW U51 Z30 ?_)
 obtain⟨_,_,cH,e7⟩:=(cJ.stp (T13 aG ah V B C D E K x F G W X)).gSl cW
 refine Jg R (Jd2 I30 R R<|hvC e7 R)<|Ob h λfN cX h=>Jd3 R cH cX U30 Z2<|Jg R (Jd2 I2 R R<|hvC (cH.gInt cX) R)<|Jg R (Jh4 (haC (eM.stp<|T12 ah V B C D E K x F G W X).cells R) I39 Z39 R)<|Ob h λfO fA h=>Jw3 R C73 (dr (J:=Mk bj) (p0:=p0) fA)<|Ki λ_ dm aB=>⟨(aB.cl R),Jn 3 R<|Jt1<|Jd<|Jl3 1 R<|Je3 R U60 R Z51<|Jc3 R I51 ((cw.stp<|T11 B C D E K x F G W X aB).ld 0 R R)<|Jn 1 R<|Ob h λ_ cY h=>Jd3 R cK cY U51 Z30 ?_⟩
 obtain⟨_,_,cv,e5⟩:=(cK.stp (T14 aG ah V B C D E K x F G W X aB)).gSl cY
 refine Jc3 R I30 e5<|Jn 1 R<|Ob h λa8 cZ h=>Jd3 R cv cZ U30 Z2<|Jc3 R I2 (cv.gInt cZ)<|Jf R (Jn4 [vi a7,vi a8] R)<|Jy3 dm 14 R X187 R λ_ _ I dO ef=>Tv<|Jm4 I 14 R Z187 R ef R λfE dP bx=>Tv<|Jd<|Jl3 1 R<|Jg4 tv R (Jh4 (haE bx.cells) I187 Z187 R) (have bz:=cG.stp (T4 X aB dO dP);Ob h λf8 fB h=>Jg4 tv R (AX (kf:=kvI2) (vf:=(λi:Int=>vi i)) y6 U252 X2 R R R (mvE bz) fB)<|Jb 5 R<|Jq<|Jf3 R<|Ob h λU h eW=>Jt3 [3,4,5,9,10,11,12,13,14,15,18,56,57,58] (λc d a=>∃b aR aX,d=(8,.slice aR U.1.length aX)::(20,vi U.2.1)::c/\Stp [5,6] I fE b a/\Oc (F0 E6 E6) 187 b a 5 aR aX U.1/\Mc kwI2 kvI2 (λi:Int=>vi i) b a 6 aw U.2.2) ?_ ?_)
 exact Bk h (λfk h=>Jy R<|Js<|Oh h<|Jw1 _ ⟨I,al,ap,R,Jo3,Fct,bz⟩<|KM R) (λfk h=>Jx R<|Jl3 1 R<|Js3 R U188 R R<|Jb 1 R<|Jl3 1 R<|Jg4 tv R (Jh4 (haE bx.cells) I187 Z187 R)<|Jn 1 R<|Ob h λ_ fD h=>WO.mapup (J:=I) (kf:=kvI2) (vf:=(λi:Int=>vi i)) (v:=(n.1.length:Int)) 6 R R R R R R R y6 U252 bz fD λdc dQ _=>Tv<|Jd<|Jm3 1 R<|Jg4 tv R (Jh4 (haE (bx.stp dQ).cells) I187 Z187 R)<|Jb4 I (F0 E6 E6) 15 [] (parts:=[(0,.tmp 100)]) (cells:=[vi a7,vi a8]) (xs:=([(a7,a8)]:List (Int×Int))) R Y188 iy R (Jj4 ⟨[vi a7],[vi a8],Zl I dc [],Zl I dc [],R,Zl.sp (l1:=[]) (l2:=[]) R,Zl.sr (l1:=[]) (l2:=[]),R,R⟩) λbL fU _ dp _ eg=>Tv<|Ob h λ_ fs h=>Jd4 dp (F0 E6 E6) 5 [] R Y188 iy R Fct (FY (Ak (cd _)<|cd _) eg.rdc) bU fs R λd9 ec _ dq _ eh=>Tv<|Jc 1 R<|Oh h<|Jw1 _ ⟨dq,d9,ec,R,Fct,eh,Fct⟩<|KM R)
 rintro _ _ ⟨dn,aR,aX,rfl,_,_,_⟩
 refine have h:=eW;Jp (Jm3 2 R<|Ji4 dn 15 [U.2.1] R Y30 bS R λbJ fX _ dt _ ei=>Tv<|Ob h λfI ft h=>Jd4 dt E6 10 [] R Y30 bS R Fct (FY (cd _) ei.rdc) bU ft R λeb ea _ du _ _=>Tv<|Jn 2 R<|Ji4 du 16 [(FW .i64 ((FW .i64<|fN * fO)+z))] R Y30 bS R λbI fW _ dv _ ej=>Tv<|Ob h λfJ fu h=>Jd4 dv E6 11 [] R Y30 bS R Fct (FY (cd _) ej.rdc) bU fu R λd3 d1 _ dw _ ek=>Tv<|Jc 2 R<|Jz<|Jp<|Jg3 R ?_)
 have fr:FW .i64 (z+1)=z+1:=wr1 e4 (Jn2 a5) bB.len_le
 rw[fr]
 exact have a5:=Jn2 a5;Ou h bG (λbG=>Ja2 ⟨dw,z+1,(U.1,fI,fJ,U.2.2),aR,aX,eb,ea,d3,d1,R,Fct,Fct,Fct,ek,Fct,by omega,by omega,bG⟩ R)
 rintro _ fH ⟨ad,g,aL,aI,ai,ar,ab,Y,rfl,cl,_,_,_,_,rfl⟩
 refine have h:=yI e1;Jp (Jq<|Jl3 1 R<|Js3 R U188 R R<|Jb 1 R ?_)
 refine Bk h (λfl h=>Jy R<|Js<|Jp<|Ob h λp bM h=>Ob h λA bN h=>Jt3 [3,4,5,8,9,10,11] (λc d a=>∃b aW aH aQ aU,d=c/\Stp [7,8,9,10,11,12,13] ad fH b a/\Oc (FU E6 2) 30 b a 12 aW aH p/\Oc (FU E6 2) 30 b a 13 aQ aU A/\Bc b a 7 ac 210 [.slice aW p.length aH,.slice aQ A.length aU,.slice none 0 0]) (WC.rxt (J:=ad) [7] (some 18) (by kernel_rfl) λ_ aC=>Jq1 (fuel:=10) [(0,2),(1,2),(2,2),(3,2),(4,2),(6,2),(9,2),(10,2),(11,2),(13,2),(5,0),(12,0)] (by kernel_rfl) (by kernel_rfl) R<|Jn 3 R<|Jf R (bX R R)<|Je3 R U210 R Z51<|Jn 2 R<|Jf R (bX R R)<|Je3 R U210 R Z51<|Jn 1 R (have cx:=cD.stp (T5 x F G cl aC);Jg R (Jd2 I51 R R<|hvC (cx.ld 0 R R) R) (Jg R (Jd2 I51 R R<|hvC (cx.ld 1 R R) R)<|Jp1<|WA.fork2 (fuel:=9) 7 14 (by kernel_rfl) R (Jb4 ad (FU E6 2) 12 [10] (parts:=[(0,.tmp 121)]) (cells:=[.slice ai g.2.1.length ar]) (xs:=([g.2.1]:VV)) R Y51 bY R (Jj4 ⟨_,_,R,Fct⟩) λed d6 _ bT v cy=>⟨(v.cl R),Jp1<|WA.fork2 (fuel:=8) 8 14 (by kernel_rfl) R (Jd4 bT (FU E6 2) 8 [12] R Y51 bY R Fct cy.src (c9 R) bM R λm k _ dy aD _=>⟨((v.tr aD).cl R),Xs 4 [43,46,50,53]<|Jb4 dy (FU E6 2) 13 [11] (parts:=[(0,.tmp 128)]) (cells:=[.slice ab g.2.2.1.length Y]) (xs:=([g.2.2.1]:VV)) R Y51 bY R (Jj4 ⟨_,_,R,Fct⟩) λcp cs _ dz bk el=>⟨((T3 v aD bk).cl R),Jd4 dz (FU E6 2) 9 [13] R Y51 bY R Fct el.src (c9 R) bN R λs q _ ba b5 _=>⟨((T4 v aD bk b5).cl R),Jf R (bX R R)<|Je3 R U210 R Z51<|Jp1<|WA.brk (fuel:=3) 18 (by kernel_rfl) R (by kernel_rfl)<|Jz3 ba 7 (off:=0) (vc:=[.slice m p.length k]) (cs':=[.slice m p.length k,.slice N f.2.2.2.1.length S,.slice none 0 0]) R Z51 R Fct R λ_ dS em=>Tv<|Xs 0 [59,62,64]<|Jf R (bX R R)<|Je3 R U210 R Z51<|Jz3 ba 7 (off:=1) (vc:=[.slice s A.length q]) (cs':=[.slice m p.length k,.slice s A.length q,.slice none 0 0]) R Z51 R em R λ_ dT _=>Tv<|Xe<|Jo<|Jw1 _ ⟨(λy=>ren [(8,12),(9,13)]<|ba y),m,k,s,q,R,(Jz2 ((T7 aC v aD bk b5 dS dT).wk R) [(8,12),(9,13)] R),Fct,Fct,Fct⟩<|KM R⟩⟩⟩)<|Jb4 bT (FU E6 2) 13 [11] (parts:=[(0,.tmp 128)]) (cells:=[.slice ab g.2.2.1.length Y]) (xs:=([g.2.2.1]:VV)) R Y51 bY R (Jj4 ⟨_,_,R,Fct⟩) λcp cs _ dB ae eo=>⟨((v.tr ae).cl R),Xs 4 [25,46,50,53]<|Jm1 (J:=dB) (E:=(FU E6 2)) 8 [12] R R R R R R R R R Y51 bY R R R R Fct (cy.stp ae).src (c9 R) bM R λm k _ dC aE _=>⟨((T3 v ae aE).cl R),Jm1 (J:=dC) (E:=(FU E6 2)) 9 [13] R R R R R R R R R Y51 bY R R R R Fct (eo.stp aE).src (c9 R) bN R λs q _ bb b6 _=>⟨((T4 v ae aE b6).cl R),Jf R (bX R R)<|Je3 R U210 R Z51<|Jp1<|WA.brk (fuel:=3) 18 (by kernel_rfl) R (by kernel_rfl)<|Jz3 bb 7 (off:=0) (vc:=[.slice m p.length k]) (cs':=[.slice m p.length k,.slice N f.2.2.2.1.length S,.slice none 0 0]) R Z51 R Fct R λ_ dU ep=>Tv<|Xs 0 [59,62,64]<|Jf R (bX R R)<|Je3 R U210 R Z51<|Jz3 bb 7 (off:=1) (vc:=[.slice s A.length q]) (cs':=[.slice m p.length k,.slice s A.length q,.slice none 0 0]) R Z51 R ep R λ_ dV _=>Tv<|Xe<|Jo<|Jw1 _ ⟨(λy=>ren [(8,12),(9,13)]<|bb y),m,k,s,q,R,(Jz2 ((T7 aC v ae aE b6 dU dV).wk R) [(8,12),(9,13)] R),Fct,Fct,Fct⟩<|KM R⟩⟩⟩⟩)<|Jb4 ad (FU E6 2) 12 [11] (parts:=[(0,.tmp 128)]) (cells:=[.slice ab g.2.2.1.length Y]) (xs:=([g.2.2.1]:VV)) R Y51 bY R (Jj4 ⟨_,_,R,Fct⟩) λcp cs _ dD af eq=>⟨(af.cl R),Xs 4 [22,25,46,50,53]<|Jb4 dD (FU E6 2) 13 [10] (parts:=[(0,.tmp 121)]) (cells:=[.slice ai g.2.1.length ar]) (xs:=([g.2.1]:VV)) R Y51 bY R (Jj4 ⟨_,_,R,Fct⟩) λed d6 _ dE ag er=>⟨((af.tr ag).cl R),Jd4 dE (FU E6 2) 8 [13] R Y51 bY R Fct er.src (c9 R) bM R λm k _ dF aF _=>⟨((T3 af ag aF).cl R),Jm1 (J:=dF) (E:=(FU E6 2)) 9 [12] R R R R R R R R R Y51 bY R R R R Fct (eq.stp<|ag.tr aF).src (c9 R) bN R λs q _ bc b7 _=>⟨((T4 af ag aF b7).cl R),Jf R (bX R R)<|Je3 R U210 R Z51<|Jp1<|WA.brk (fuel:=3) 18 (by kernel_rfl) R (by kernel_rfl)<|Jz3 bc 7 (off:=0) (vc:=[.slice m p.length k]) (cs':=[.slice m p.length k,.slice N f.2.2.2.1.length S,.slice none 0 0]) R Z51 R Fct R λ_ dW es=>Tv<|Xs 0 [59,62,64]<|Jf R (bX R R)<|Je3 R U210 R Z51<|Jz3 bc 7 (off:=1) (vc:=[.slice s A.length q]) (cs':=[.slice m p.length k,.slice s A.length q,.slice none 0 0]) R Z51 R es R λ_ dX _=>Tv<|Xe<|Jo<|Jw1 _ ⟨(λy=>ren [(8,12),(9,13)]<|bc y),m,k,s,q,R,(Jz2 ((T7 aC af ag aF b7 dW dX).wk R) [(8,12),(9,13)] R),Fct,Fct,Fct⟩<|KM R⟩⟩⟩⟩))) ?_) (λfl h=>Jx R<|Jf3 R<|Ju<|Jw<|Ja1<|Jw<|Jw ?_)
 rintro _ _ ⟨dx,aW,aH,aQ,aU,rfl,dR,_,_,_⟩
 refine Jz<|Jp<|Jg3 R ?_
 cases h
 exact Ja2 ⟨(λy=>ren [(12,8),(13,9)]<|dx y),(g.1,((FW .i64<|f.2.1+1):Int),p,A,g.2.2.2),aL,aI,aW,aH,aQ,aU,R,(Jz2 ((T6 K x F G cl dR).wk R) [(12,8),(13,9)] R),Fct,Fct,Fct,Fct,Fct,bF⟩ R
 cases h
 exact Ov bF cO (λh=>Ja1<|Jr2<|Jw<|Jb2 (l:=[.tmp 6,.tmp 7]) results189 (Jq2 R<|Jq2 R R) R<|Oh h<|⟨ad,none,0,none,0,none,0,0,R,Fct,FZ,FZ,FZ,(λh=>absurd h Bool.false_ne_true)⟩)
 rintro _ df ⟨be,j,bu,bv,M,P,O,L,rfl,cf,bA,_,_,_,eK,rfl⟩
 refine have h:=yI cO;Jp (Jq<|Jj3<|Je3 R U60 R Z58<|Jc3 R I58 ((cw.stp<|T5 B C D E cf).ld 1 R R)<|Js3 R U58 R R<|Jb 1 R<|Ob h λc3 fc eX=>Jt3 [10] (λc d a=>∃b,∃a6:VP,∃aT aY,d=c/\Stp [7,10,11,12,13,14,15] be df b a/\Oc Pair.ep120 120 b a 10 aT aY a6/\Bc b a 7 ac 210 [.slice M j.2.2.1.length P,.slice O j.2.2.2.1.length L,.slice aT a6.length aY]/\c3=FX a6) (Jv<|Ju3 [8,10,136,137] (λe c d a=>∃b H,∃ay:VP,∃aZ aN,d=(138,vi H)::c/\Stp [7,10,11,12,13,14,15] be df b a/\Oc Pair.ep120 120 b a 10 aZ aN ay/\Bc b a 7 ac 210 [.slice M j.2.2.1.length P,.slice O j.2.2.2.1.length L,.slice aZ ay.length aN]/\0<=H/\FV ((p2.Pairs.length:Int)-H)=e/\cntM (kB p2 j) e H ay=some c3) ⟨_,_,⟨be,0,([]:VP),none,0,R,Jo3,FZ,eK,(by decide),(by simp),fc⟩,(KM R)⟩ ?_) ?_)
 rintro e _ _ ⟨bW,H,ay,aZ,aN,rfl,b8,eu,cz,e2,cL,h⟩
 rcases e with _|e
 exact Jf3 R<|Jq<|Jx2 R (dcf cL)<|Jc1<|Jt<|Jt<|Jb1<|Oh h<|Jw1 _ ⟨bW,ay,aZ,aN,R,Fct,eu,cz,R⟩<|KM R
 refine Ob h λf1 h bD=>have a3:=dct cL;Jf3 R (Jq<|Jw2 R a3<|Js<|Jp<|Jq<|Jv<|Jj3<|Ob h λfK cP h=>Jd3 R bC cP U58 Z120 ?_)
 obtain⟨_,fg,e8⟩:=((bC.stp (T9 aG ah V B C D E cf b8))).gSt cP
 obtain⟨fQ,f4,fR,f5,rfl,fY,fZ⟩:=Pair.un fg
 refine Jg4 tv R (Jh4 (haE e8) I120 Z120 R)<|Jy3 bW 11 R X120 R λ_ _ bZ b9 ev=>Tv<|Jm4 bZ 11 R Z120 R ev R λ_ ca ew=>Tv<|Jd<|Jj3<|Jf R (Jn4 [.slice none 0 0,.slice none 0 0] R)<|Jy3 bZ 12 R X120 R λa1 _ az bl ex=>Tv<|Jm4 az 12 R Z120 R ex R λde bm ey=>Tv<|Jd<|Jq<|Jl3 1 R<|Js3 R U188 R R<|Jb 1 R<|Ob h λc0 fd eY=>Jt3 [8,10,24,136,137,138] (λc d a=>∃b,∃o:VI×VI,∃an aj aq au,d=c/\Stp [12,13,14,15] az de b a/\Oc E6 2 b a 13 an aj o.1/\Oc E6 2 b a 14 aq au o.2/\Bc b a 12 a1 120 [.slice an o.1.length aj,.slice aq o.2.length au]/\c0=FX o) (Jv<|Ju3 [8,10,23,24,136,137,138,143,144] (λe c d a=>∃b u,∃t:VI×VI,∃am av Q T,d=(145,vi u)::c/\Stp [12,13,14,15] az de b a/\Oc E6 2 b a 13 am av t.1/\Oc E6 2 b a 14 Q T t.2/\Bc b a 12 a1 120 [.slice am t.1.length av,.slice Q t.2.length T]/\0<=u/\FV ((j.1.length:Int)-u)=e/\cntM (i7 j fK) e u t=some c0) ⟨_,_,⟨az,0,(([]:VI),([]:VI)),none,0,none,0,R,Jo3,FZ,FZ,ey,(by decide),(by simp),fd⟩,(KM R)⟩ ?_) ?_
 rintro e _ _ ⟨b0,u,t,am,av,Q,T,rfl,cb,eA,eB,cA,e3,cM,h⟩
 rcases e with _|e
 exact Jf3 R<|Jq<|Jx2 R (dcf cM)<|Jc1<|Jt<|Jt<|Jb1<|Oh h<|Jw1 _ ⟨b0,(t.1,t.2),am,av,Q,T,R,Fct,eA,eB,cA,R⟩<|KM R
 refine Ob h λf2 h bE=>have a4:=dct cM;Jf3 R (Jq<|Jw2 R a4<|Js<|Jp<|Jq<|Jv<|Jl3 1 R<|Ob h λ_ cR h=>Jd3 R bA.rdc cR U188 Z187 ?_)
 obtain⟨_,fh,e9⟩:=((bA.stp (T6 b8 b9 ca bl bm cb)).rdc).gSt cR
 obtain⟨_,_,rfl,rfl,rfl⟩:=fh
 refine Jg4 tv R (Jh4 (haE e9) I187 Z187 R)<|Jy3 b0 15 R X187 R λ_ _ b1 cc eC=>Tv<|Jn 1 R<|Jm4 b1 15 R Z187 R eC R λ_ ce cB=>Tv<|Jd<|Jq<|Jj3<|Je3 R U120 R Z30 (have cC:=ew.stp (T5 bl bm cb cc ce);Jc3 R I30 (cC.ld 0 R R) (Jf R (jx U187 Z2 R R R R)<|Jc3 R I2 (cB.ld 1 R R)<|Ob h λf6 fv h=>Jw3 R C135 (ch (J:=Mk b1) Gct fv)<|Kb λfF bf bo=>Tv<|Jd<|Ob h λax h eZ=>Jt3 [8,10,23,24,25,26,136,137,138,143,144,145] (λc d a=>∃b Z aa,d=c/\Stp [12,13] bf fF b a/\Oc E6 2 b a 13 Z aa ax/\Bc b a 12 a1 120 [.slice Z ax.length aa,.slice Q t.2.length T]) ?_ ?_))
 exact Bk h (λfm h=>Jy R<|Js<|Oh h<|Jw1 _ ⟨bf,am,av,R,Jo3,Fct,Fct⟩<|KM R) (λfm h=>Jx R<|Jk3<|Je3 R U120 R Z30<|Jc3 R I30 ((cA.stp<|T3 cc ce bo).ld 0 R R)<|Jn 1 R<|Ji4 bf 18 [u] R Y30 bS R λbP fV _ dI _ eE=>Tv<|Ob h λdj fw h=>Jd4 dI E6 13 [] R Y30 bS R Fct (FY (cd _) eE.rdc) bU fw R λbt bw _ b2 _ _=>Tv<|Je3 R U120 R Z30<|Jz3 b2 12 (off:=0) (vc:=[.slice bt dj.length bw]) (cs':=[.slice bt dj.length bw,.slice Q t.2.length T]) R Z30 R Fct R λ_ _ eF=>Tv<|Jo<|Oh h<|Jw1 _ ⟨b2,bt,bw,R,Fct,Fct,eF⟩<|KM R)
 rintro _ _ ⟨dH,Z,aa,rfl,cg,_,eD⟩
 refine Jp<|Jj3<|Je3 R U120 R Z30<|Jc3 R I30 ((cC.stp<|bo.tr cg).ld 1 R R)<|Jf R (jx U187 Z2 R R R R)<|Jc3 R I2 ((cB.stp<|bo.tr cg).ld 1 R R)<|Ob eZ λf7 fx h=>Jw3 R C135 (ch (J:=Mk dH) Gct fx)<|Kb λfG bg dZ=>Tv<|Jd<|Ob h λbO h e0=>Jt3 [8,10,23,24,136,137,138,143,144,145] (λc d a=>∃b aO aV,d=c/\Stp [12,14] bg fG b a/\Oc E6 2 b a 14 aO aV bO/\Bc b a 12 a1 120 [.slice Z ax.length aa,.slice aO bO.length aV]) ?_ ?_
 exact Bk h (λfn h=>Jy R<|Js<|Oh h<|Jw1 _ ⟨bg,Q,T,R,Jo3,Fct,Fct⟩<|KM R) (λfn h=>Jx R<|Jk3<|Je3 R U120 R Z30<|Jc3 R I30 ((eD.stp dZ).ld 1 R R)<|Jn 1 R<|Ji4 bg 20 [u] R Y30 bS R λbR fS _ dK _ eI=>Tv<|Ob h λdk fy h=>Jd4 dK E6 14 [] R Y30 bS R Fct (FY (cd _) eI.rdc) bU fy R λbr bp _ b3 _ _=>Tv<|Je3 R U120 R Z30<|Jz3 b3 12 (off:=1) (vc:=[.slice br dk.length bp]) (cs':=[.slice Z ax.length aa,.slice br dk.length bp]) R Z30 R Fct R λ_ _ eJ=>Tv<|Jo<|Oh h<|Jw1 _ ⟨b3,br,bp,R,Fct,Fct,eJ⟩<|KM R)
 rintro _ _ ⟨dJ,aO,aV,rfl,_,eG,eH⟩
 refine have h:=e0;Jz (Jp<|Jg3 R ?_)
 have fq:FW .i64 (u+1)=u+1:=wr1 e3 (Jn2 a4) bA.len_le
 rw[fq]
 exact have a4:=Jn2 a4;Ou h bE (λbE=>Ja2 ⟨dJ,u+1,(ax,bO),Z,aa,aO,aV,R,Fct,Fct,eG,eH,by omega,by omega,bE⟩ R)
 rintro _ _ ⟨aA,o,an,aj,aq,au,rfl,dY,_,_,ez,rfl⟩
 refine have h:=yI eY;Jp (Xr aA [7,12] (some 10) [2,5,8,11,12,15,19,22,26,29] [31] λdg cj=>Jn 2 R<|Jf R (bX R R)<|Je3 R U210 R Z58<|Jg R (Jd2 I58 R R<|hvC ((cz.stp<|T6 b9 ca bl bm dY cj).ld 2 R R) R)<|Jg R (Jh4 (haC (ez.stp cj).cells R) I120 Z120 R)<|Jb4 aA Pair.ep120 15 [13,14] (parts:=[(0,.tmp 178)]) (cells:=[.slice an o.1.length aj,.slice aq o.2.length au]) (xs:=([(⟨o.1,o.2⟩:Pair)]:VP)) R Y58 cQ R (Jj4 ⟨[.slice an o.1.length aj],[.slice aq o.2.length au],Zl aA dg [13],Zl aA dg [14],R,Zl.sp (l1:=[13]) (l2:=[14]) R,Zl.sr (l1:=[13]) (l2:=[14]),⟨_,_,R,Fct⟩,⟨_,_,R,Fct⟩⟩) λbH fT _ dL ck eL=>⟨(ck.cl R),Ob h λbQ fz h=>Jd4 dL Pair.ep120 10 [15] R Y58 cQ R Fct eL.src (c9 R) fz R λbs bq _ b4 d0 _=>⟨((ck.tr d0).cl R),Jf R (bX R R)<|Je3 R U210 R Z58<|Jt1<|Jz3 b4 7 (off:=2) (vc:=[.slice bs bQ.length bq]) (cs':=[.slice M j.2.2.1.length P,.slice O j.2.2.2.1.length L,.slice bs bQ.length bq]) R Z58 R Fct R λ_ _ eN=>Tv<|Jo<|Jz<|Jp<|Jg3 R ?_⟩⟩)
 have fp:FW .i64 (H+1)=H+1:=wr1 e2 (Jn2 a3) bC.len_le
 rw[fp]
 exact have a3:=Jn2 a3;Ou h bD (λbD=>Ja2 ⟨b4,H+1,bQ,bs,bq,R,Fct,Fct,eN,by omega,by omega,bD⟩ R)
 rintro _ _ ⟨dG,a6,aT,aY,rfl,_,_,_,rfl⟩
 exact have h:=yI eX;Jp (Jf3 R<|Ju<|Jb2 (l:=[.tmp 6,.tmp 7]) results189 (Jq2 R<|Jq2 R R) R<|Oh h<|⟨(λy=>ren [(8,2),(9,3),(10,4),(7,5)]<|dG y),M,P,O,L,aT,aY,ac,R,Fct,Fct,Fct,Fct,(λ_=>Fct)⟩)
theorem pW {u B v A x y}{p0:watch}{t I}{p1:VI}{C}(aa:Rd Rs J w 0 u B p0.next) (ab:Rd Rs J w 0 v A p0.letters) (ac:Rd Pair.rp J w 0 x y p0.pairs) (ad:Rd Ri J w 0 t I p1) (S:Bc J w 0 C 210 [.slice u p0.next.length B,.slice v p0.letters.length A,.slice x p0.pairs.length y]){r:VB}(h:io p0 p1=some r):Ret prog 234 [.pointer (some ⟨C,0,none⟩),.slice t p1.length I] w (Pvs Ep.bool 4 J w r):=by
 refine Jp3 J func234 R ntmps234 R λae=>Jf3 R<|Jl3 1 R<|Jf R (bX R R)<|Je3 R U210 R Z51<|Jc3 R I51 (S.ld 0 R R)<|Js3 R U51 R R<|Ob h λf X h=>Jl1 (J:=J) (E:=Ep.bool) (z:=(false:Bool)) 2 R R R R R R R Y179 dw R R R R R (λ_ _ _=>R) (Jv2 X) λn o K k _ E=>Tv<|Jb 1 R<|Jq<|Jl3 1 R<|Js3 R U179 R R<|Jb 1 R<|Ob h λH W T=>Jt3 [0,5] (λb m e=>∃g,∃j:VB,m=b/\Stp [2] k K g e/\Oc Ep.bool 4 g e 2 n o j/\f.length=j.length/\H=FX j) (Jv<|Ju3 [0,1,5,14] (λc b m e=>∃g a,∃d:VB,m=(15,vi a)::b/\Stp [2] k K g e/\Oc Ep.bool 4 g e 2 n o d/\f.length=d.length/\0<=a/\FV ((f.length:Int)-a)=c/\cntM (fa p1) c a d=some H) ⟨_,_,⟨k,0,f,R,Jo3,E,R,(by decide),(by simp),W⟩,(KM R)⟩ ?_) ?_
 rintro c _ _ ⟨s,a,d,rfl,_,D,q,F,i,h⟩
 rcases c with _|c
 exact Jf3 R<|Jq<|Jx2 R (dcf i)<|Jc1<|Jt<|Jt<|Jb1<|Oh h<|Jw1 _ ⟨s,d,R,Fct,D,q,R⟩<|KM R
 exact Ob h λo5 h p=>Jf3 R<|Jq<|Jw2 R (dct i)<|Js<|Jp<|Jq<|Jv<|Jf3 R<|Jm3 4 R<|Ob h λ_ Y h=>Jw3 R C135 (ch (J:=Mk s) Gct Y)<|Kb λ_ M _=>Tv<|Jn 1 R<|Ob h λ_ Z h=>Jf R (Jg2 D.rdc Z U179 Z4 R R q R) (Ob h λL G h=>Jk1 (J:=M) (E:=Ep.bool) 2 [] R R R R R R R R Z4 R R R R Fct G λ_ N _ Q=>Tv<|have V:f.length=L.length:=q.trans (Ju2 G).2.2.2.symm;Jo (Jz<|Jp<|Jg3 R<|wr2 F i E.len_le ▸ (Ou h p (λp=>Ja2 ⟨N,a+1,L,R,Fct,Q,V,nxz F,nxm i,p⟩ R))))
 rintro _ _ ⟨O,j,rfl,_,P,U,rfl⟩
 exact have h:=yI T;Jp (Jf3 R<|Ju<|Jb2 (l:=[.tmp 4]) results234 (Jq2 R R) R<|Oh h<|⟨O,n,o,(by simp only[U]),Fct,P⟩)
theorem ux {aE aD aA aC}{p0:Det}{az aF ay aB}{p1:Det}{p2:Int}(aO:Rd Rs J w 0 aE aD p0.Next) (cC:Rd Pair.rp J w 0 aA aC p0.Pairs) (aP:Rd Rs J w 0 az aF p1.Next) (cD:Rd Pair.rp J w 0 ay aB p1.Pairs){r:Det×Bool}(h:gA p0 p1 p2=some r):Ret prog 85 [.agg #[.slice aE p0.Next.length aD,.slice aA p0.Pairs.length aC],.agg #[.slice az p1.Next.length aF,.slice ay p1.Pairs.length aB],vi p2] w (λcp a=>∃b a2 a4 a3 a5,cp= .tuple #[.agg #[.slice a2 r.1.Next.length a4,.slice a3 r.1.Pairs.length a5],.bool r.2]/\Ent J w b a/\Oc (FU E6 2) 30 b a 2 a2 a4 r.1.Next/\Oc Pair.ep120 120 b a 3 a3 a5 r.1.Pairs):=by
 refine Jp3 J func85 R ntmps85 R λcE=>Jj3<|Jx3 J 2 R λ_ _ bj aw aH=>Tv<|Jx3 bj 3 R λ_ _ bk G aM=>Tv<|Jy3 bk 4 R X60 R λ_ _ a9 m _=>Tv<|Jb 1 R<|Jj3<|Ji4 a9 5 [0,0] R Y30 bS R λbB bq _ bf n bL=>Tv<|Jb4 bf (FU E6 2) 6 [5] (parts:=[(0,.tmp 16)]) (cells:=[.slice bB ([0,0]:VI).length bq]) (xs:=([([0,0]:VI)]:VV)) R Y51 bY R (Jj4 ⟨_,_,R,bL⟩) λbu bv _ bi o _=>Tv<|Jb 1 R<|Jj3<|Jf R (Jn4 [.slice none 0 0,.slice none 0 0] R)<|Jy3 bi 7 R X60 R λaG _ C p bP=>Tv<|Jm4 C 7 R Z60 R bP R λa6 q bQ=>Tv<|Jd<|Jq<|Jf3 R<|Ob h λa0 b8 aR=>Jt3 [3,4,6,9] (λd f a=>∃b,∃k:VV×Int×VV,∃ae aa z v,f=(8,.slice ae k.1.length aa)::d/\Stp [6,7,8,9,10,12,13] C a6 b a/\Oc (FU E6 2) 30 b a 6 ae aa k.1/\Oc (FU E6 2) 30 b a 8 z v k.2.2/\Bc b a 7 aG 60 [.slice z k.2.2.length v,.slice none 0 0]/\a0=FX k) (Jv<|Ju3 [2,3,4,6,9] (λe d f a=>∃b,∃c:VV×Int×VV,∃u x N P,f=(8,.slice u c.1.length x)::(10,vi c.2.1)::d/\Stp [6,7,8,9,10,12,13] C a6 b a/\Oc (FU E6 2) 30 b a 6 u x c.1/\Oc (FU E6 2) 30 b a 8 N P c.2.2/\Bc b a 7 aG 60 [.slice N c.2.2.length P,.slice none 0 0]/\ci (jl p0 p1 p2) e c=some a0) ⟨_,_,⟨C,((([([0,0]:VI)]:VV):VV),(0:Int),([]:VV)),bu,bv,none,0,R,Jo3,Fct,FZ,bQ,b8⟩,(KM R)⟩ ?_) ?_
 rintro e _ _ ⟨ap,c,u,x,N,P,rfl,E,bR,bT,aI,h⟩
 rcases e with _|e
 cases h
 refine Ob h λ_ h ai=>Jq<|Jl3 2 R<|Js3 R U51 R R<|Jb 1 R ?_
 refine Bk h (λce h=>Jy R<|Jc1<|Jt<|Jt ?_) (λce h=>Jx R<|Js<|Jp<|Jq<|Jv<|Jj3<|Jc4 ap E6 9 R Y30 bS R λbw bp a7 V s bV=>Tv<|Jb 1 R<|Jq<|Jf3 R (Ob h λ_ ca h=>have b2:=gk ca;Ob h λa1 b9 b0=>Jt3 [2,3,4,6,9,10] (λd f a=>∃b,∃g:VV×VI,∃L M S H,f=(8,.slice L g.1.length M)::(11,.slice S g.2.length H)::d/\Stp [6,9,12,13] V a7 b a/\Oc (FU E6 2) 30 b a 6 L M g.1/\Oc E6 2 b a 9 S H g.2/\a1=FX g) (Jv<|Ju3 [2,3,4,6,9,10] (λe d f a=>∃b j,∃i:VV×VI,∃A y O Q,f=(8,.slice A i.1.length y)::(11,.slice O i.2.length Q)::(12,vi j)::d/\Stp [6,9,12,13] V a7 b a/\Oc (FU E6 2) 30 b a 6 A y i.1/\Oc E6 2 b a 9 O Q i.2/\0<=j/\FV (p2-j)=e/\cntM (gB p0 p1 c) e j i=some a1) ⟨_,_,⟨V,0,(c.1,([]:VI)),u,x,bw,bp,R,Jo3,Fct,bV,(by decide),(by simp),b9⟩,(KM R)⟩ ?_) ?_))
 cases h
 exact have h:=ai;Jb1 (Oh h<|Jw1 _ ⟨ap,(c.1,c.2.1,c.2.2),u,x,N,P,R,Fct,bR,bT,aI,R⟩<|KM R)
 rintro e _ _ ⟨D,j,i,A,y,O,Q,rfl,F,ag,bX,b3,aQ,h⟩
 rcases e with _|e
 exact Jq<|Jf3 R<|Jx2 R (dcf aQ)<|Jc1<|Jt<|Jt<|Jb1<|Oh h<|Jw1 _ ⟨D,(i.1,i.2),A,y,O,Q,R,Fct,ag,bX,R⟩<|KM R
 refine Ob h λcF h aj=>have T:=dct aQ;Jq (Jf3 R<|Jw2 R T<|Js<|Jp<|Jq<|Jv<|Jq<|Xn D [0,2,6] [2,8,11,14,32,3,15,20,21,26,27,35,36,41] λ_ t=>Je3 R U60 R Z51<|Jn 2 R<|Ob h λ_ aS h=>Jd3 R ag.rdc aS U51 Z30<|Jn 1 R<|Jg R (Jd2 I51 R R<|hvC ((aH.stp<|T10 G m n o p q E s F t).ld 0 R R) R) ?_)
 have ah:=ag.stp t
 obtain⟨_,_,aJ,b4⟩:=ah.rdc.gSl aS
 refine Jg R (Jd2 I30 R R<|hvC b4 R)<|Ob h λ_ aT h=>Jd3 R aJ aT U30 Z2<|Jg R (Jd2 I2 R R<|hvC (aJ.gInt aT) R)<|Ob h λ_ aU h=>Jd3 R aO aU U51 Z30 ?_
 obtain⟨_,_,aK,b5⟩:=(aO.stp (T11 aw G m n o p q E s F t)).gSl aU
 refine Jg R (Jd2 I30 R R<|hvC b5 R)<|Ob h λak aV h=>Jd3 R aK aV U30 Z2<|Jg R (Jd2 I2 R R<|hvC (aK.gInt aV) R)<|Jn 1 R<|Jt1<|Jd<|Jq<|Xn D [0,3,6] [2,8,11,14,32,3,15,20,21,26,27,35,36,41] λ_ Z=>Je3 R U60 R Z51<|Jn 2 R<|Ob h λ_ aW h=>Jd3 R ah.rdc aW U51 Z30<|Jn 1 R<|Jg R (Jd2 I51 R R<|hvC ((aM.stp<|T10 m n o p q E s F t Z).ld 0 R R) R) ?_
 obtain⟨_,_,aL,b6⟩:=(ah.stp Z).rdc.gSl aW
 refine Jg R (Jd2 I30 R R<|hvC b6 R)<|Ob h λ_ aX h=>Jd3 R aL aX U30 Z2<|Jg R (Jd2 I2 R R<|hvC (aL.gInt aX) R)<|Ob h λ_ aY h=>Jd3 R aP aY U51 Z30 ?_
 obtain⟨_,_,aN,b7⟩:=(aP.stp (T12 aw G m n o p q E s F t Z)).gSl aY
 refine Jg R (Jd2 I30 R R<|hvC b7 R)<|Ob h λal aZ h=>Jd3 R aN aZ U30 Z2<|Jg R (Jd2 I2 R R<|hvC (aN.gInt aZ) R)<|Jn 1 R<|Jt1<|Jd<|Jl3 3 R<|Ob h λcG ch h=>Jw3 R call145 (va (J:=Mk D) Gct ch)<|Ki λcq X _=>Tv<|Jb 1 R<|Jq<|Jf3 R<|Ob h λB h b1=>Jt3 [2,3,4,6,9,10,11,12] (λd f a=>∃b I K,f=(8,.slice I B.1.length K)::(15,vi B.2)::d/\Stp [6,12,13] X cq b a/\Oc (FU E6 2) 30 b a 6 I K B.1) ?_ ?_
 exact Bk h (λcf h=>Jy R<|Js<|Oh h<|Jw1 _ ⟨X,A,y,R,Jo3,Fct⟩<|KM R) (λcf h=>Jx R<|Jl3 1 R<|Js3 R U51 R R<|Jb 1 R<|Jm3 3 R<|Ji4 X 12 [ak,al] R Y30 bS R λbt bx _ bm _ bZ=>Tv<|Jb4 bm (FU E6 2) 13 [12] (parts:=[(0,.tmp 68)]) (cells:=[.slice bt ([ak,al]:VI).length bx]) (xs:=([([ak,al]:VI)]:VV)) R Y51 bY R (Jj4 ⟨_,_,R,bZ⟩) λcu ct _ ba _ bD=>Tv<|Ob h λ_ cj h=>Jd4 ba (FU E6 2) 6 [13] R Y51 bY R Fct bD.src (c9 R) cj R λbA bs _ bb _ bE=>Tv<|Jc 1 R<|Oh h<|Jw1 _ ⟨bb,bA,bs,R,Fct,bE⟩<|KM R)
 rintro _ _ ⟨bl,I,K,rfl,_,_⟩
 refine have h:=b1;Jp (Jm3 2 R<|Ji4 bl 12 [B.2] R Y30 bS R λcy cx _ bc _ bF=>Tv<|Ob h λcr ck h=>Jd4 bc E6 9 [] R Y30 bS R Fct (FY (cd _) bF.rdc) bU ck R λbr bz _ bd _ bG=>Tv<|Jc 1 R<|Jz<|Jp<|Jg3 R ?_)
 have cg:FW .i64 (j+1)=j+1:=wr1 b3 (Jn2 T) b2
 rw[cg]
 exact have T:=Jn2 T;Ou h aj (λaj=>Ja2 ⟨bd,j+1,(B.1,cr),I,K,br,bz,R,Fct,Fct,bG,by omega,by omega,aj⟩ R)
 rintro _ _ ⟨W,g,L,M,S,H,rfl,bo,_,bW,rfl⟩
 refine have h:=yI b0;Jp (Jq<|Jl3 1 R<|Js3 R U51 R R<|Jb 1 R ?_)
 refine Bk h (λcb h=>Jy R<|Js<|Jp<|Jk3<|Je3 R U60 R Z51<|Jc3 R I51 ((aI.stp<|s.tr bo).ld 0 R R)<|Jn 1 R<|Jb4 W (FU E6 2) 10 [9] (parts:=[(0,.tmp 81)]) (cells:=[.slice S g.2.length H]) (xs:=([g.2]:VV)) R Y51 bY R (Jj4 ⟨_,_,R,bW⟩) λcw cA _ be _ bI=>Tv<|Ob h λam cl h=>Jd4 be (FU E6 2) 8 [10] R Y51 bY R Fct bI.src (c9 R) cl R λaf ab _ an _ _=>Tv<|Je3 R U60 R Z51<|Jz3 an 7 (off:=0) (vc:=[.slice af am.length ab]) (cs':=[.slice af am.length ab,.slice none 0 0]) R Z51 R Fct R λ_ _ bJ=>Tv<|Jo<|Jz<|Jp<|Jg3 R ?_) (λcb h=>Jx R<|Jj3<|Jf R (Jn4 [.slice none 0 0,.slice none 0 0] R)<|Jm4 W 4 R Z60 R Fct R λ_ _ bH=>Tv<|Jb 1 R<|Ju<|Jw<|Ja1<|Jw<|Jw ?_)
 cases h
 exact Ja2 ⟨an,(g.1,((FW .i64<|c.2.1+1):Int),am),L,M,af,ab,R,Fct,Fct,Fct,bJ,ai⟩ R
 cases h
 exact Ov ai aR (λh=>Ja1<|Jr2<|Jw<|Jb2 (l:=[.cell 6 60,.tmp 7]) results85 (cc R bH I60 Z60 R<|Jq2 R R) R<|Oh h<|⟨W,none,0,none,0,R,Fct,FZ,FZ⟩)
 rintro _ _ ⟨ao,k,ae,aa,z,v,rfl,ax,_,_,_,rfl⟩
 exact have h:=yI aR;Jp (Jq<|Xn ao [2,3] [2,8,14,20,3,15,10,22,25,29,31] λ_ aq=>Je3 R U60 R Z58<|Jn 1 R<|Je3 R U60 R Z58<|Jn 1 R<|Jg R (Jd2 I58 R R<|hvC ((aH.stp<|T8 G m n o p q ax aq).ld 1 R R) R)<|Jg R (Jd2 I58 R R<|hvC ((aM.stp<|T7 m n o p q ax aq).ld 1 R R) R)<|Ob h λ_ cm h=>Jw3 R call146 (pR (J:=Mk ao) Gct Gct cm)<|Ks 11 Pair.no120 λcz cs _ bg ar bK=>⟨(ar.cl R),Ob h λ_ cn h=>Jw3 R call146 (pR (J:=Mk bg) Gct Gct cn) (Ks 14 Pair.no120 λcv cB _ bh au bM=>have Y:=(ar.tr au);⟨(Y.cl R),Ob h λa8 co h=>Jm1 (J:=bh) (E:=Pair.ep120) 11 [14] R R R R R R R R R Y58 cQ R R R R (bK.stp au) bM.src (c9 R) co R λac ad _ U av _=>⟨((Y.tr av).cl R),Je3 R U60 R Z58<|Jz3 U 7 (off:=1) (vc:=[.slice ac a8.length ad]) (cs':=[.slice z k.2.2.length v,.slice ac a8.length ad]) R Z58 R Fct R λ_ bn bN=>⟨((T3 Y av bn).cl R),Jt1<|Jd<|Jj3<|Jg4 tv R (Jh4 (haE bN.cells) I60 Z60 R)<|Jm4 U 4 R Z60 R Fct R λ_ _ bO=>Tv<|Jb 1 R<|Ju<|Jb2 (l:=[.cell 6 60,.tmp 7]) results85 (cc R bO I60 Z60 R<|Jq2 R R) R<|Oh h<|⟨(λbC=>ren [(8,2),(11,3)]<|U bC),z,v,ac,ad,R,Fct,Fct,Fct⟩⟩⟩⟩)⟩)
end
end Go.Proofs.YtldlmopdhmaceaaGreatDoor
