/- The walks, part 2. By program. -/
import Derived.Test.YtgbippnfaoedmaaGreatDoorFns0BG
import Derived.Test.YtgbippnfaoedmaaGreatDoorFns1BG
set_option linter.unusedVariables false
set_option linter.unusedSimpArgs false
open Go.Wk.Ep renaming bool → zo
open Int renaming toNat → zq
open Go.IntKind renaming wrap → zr
open Option.some renaming inj → zt
open Go.Wk.Sl renaming srcP → zu
open Sum renaming inr → zw
namespace Go.Proofs.YtgbippnfaoedmaaGreatDoor
open Tryz
open Go Go.Wk Go.Proofs
set_option maxRecDepth 100000
set_option maxHeartbeats 1000000
section
variable {w:World}{J:Col}
theorem qF {v F}{p0:VI}{p1:Int}(m:Rd Ri J w 0 v F p0){r:Bool}(h:jG p0 p1=some r):Ret prog 91 [.slice v p0.length F,vi p1] w (Pvb J w r):=by
 unfold jG at h
 refine Jp3 J func91 R ntmps91 R λx=>Jf3 R<|Jq<|Jf3 R<|Ob h λE O y=>?_
 clear h
 refine Jx1 (λj o=>∃p,j=[]/\Stp [] J w p o/\E=zw ()) ?_ ?_
 refine Jv<|Ju3 [0,1] (λe H j o=>∃p b,j=(5,vi b)::H/\Stp [] J w p o/\0<=b/\zq ((p0.length:Int)-b)=e/\cntM (fW p0 p1) e b ()=some E) ⟨_,_,⟨J,0,R,Jo3,(by decide),(by simp),O⟩,(KM R)⟩ ?_
 rintro e _ ae ⟨i,b,rfl,f,z,g,h⟩
 rcases e with _|e
 have d:=h;obtain⟨Q,h⟩:=exq d
 have n:=dcf g
 refine Jq<|Jl3 2 R<|Js3 R U27 R R<|Jb 1 R<|Jx2 R n<|Jc1<|Jt<|Jt ?_
 cases h
 have h:=d
 refine Jb1 ?_
 cases h
 exact Jw1 _ ⟨i,R,f.wk R,R⟩ KN
 obtain⟨Q,h,d⟩:=BI h;unfold fW at h
 have n:=dct g
 refine Jq<|Jl3 2 R<|Js3 R U27 R R<|Jb 1 R<|Jw2 R n<|Js<|Jp<|Jq<|Jv<|Jq<|Js1 (J:=i) [0] none [(0,2),(1,2),(2,2),(4,2),(5,2),(3,0),(6,1),(7,2),(8,2),(9,2),(10,2),(11,2),(12,2),(13,2),(14,2),(16,2),(17,2),(18,2),(19,2),(15,0),(20,0),(21,2),(22,2),(23,2)] [] (by kernel_rfl) (by kernel_rfl) λaa k=>Jn 2 R<|Ob h λaf A h=>Jd3 R m A U27 Z2<|Jn 2 R ?_
 have c:=m.stp (f.tr k)
 refine Jg R (Jd2 I2 R R<|hvC (c.gInt A) R)<|Ob h λT P h=>Jw3 R call15 (iA (J:=Mk i) P) ?_
 rintro _ G ⟨Y,rfl,L⟩
 obtain⟨q,a,Z⟩:=Ji L 2 R
 refine⟨(a.cl R),Jn 2 R<|Ob h λD h M=>Jk4 [0,1,5] 35 D q G 15 (a.cl R) ?_ ?_⟩
 revert h
 cases V:(!T)
 refine JF λh=>Jn 3 R<|Ob h λS h N=>Jk4 [0,1,5,20,21,22,23] 34 S q G 11 (a.cl R) ?_ ?_
 revert h
 cases W:decide (0<b)
 refine JF λh=>Jn 7 R<|Jf4 R<|Jf4 R<|Jn 2 R ?_
 cases h
 exact Jv1 _ (a.cl R) ⟨R,_,Jo3⟩<|KM R
 refine JT λh=>Jn 2 R<|Ob h λag B h=>Jd3 R c B U27 Z2<|Jn 3 R<|Ob h λah C h=>Jd3 R c C U27 Z2<|Jg R (Jd2 I2 R R<|hvC (c.gInt B) R)<|Jg R (Jd2 I2 R R<|hvC (c.gInt C) R)<|Jn 2 R ?_
 cases h
 exact Jv1 _ (a.cl R) ⟨R,_,Jo3⟩<|KM R
 rintro _ ab _ ⟨rfl,U,t⟩
 have h:=N
 refine Jn 1 R ?_
 cases h
 exact Jv1 _ ((a.tr t).cl R) ⟨R,_,t.wk R⟩<|KM R
 refine JT λh=>Jn 10 R<|Jf4 R<|Jf4 R<|Jn 3 R ?_
 cases h
 exact Jv1 _ (a.cl R) ⟨R,_,Jo3⟩<|KM R
 rintro _ ac _ ⟨rfl,s,u⟩
 have h:=M
 refine Jt1<|Jd ?_
 revert h
 cases X:D
 refine JF λh=>Jy R<|Js<|Jz<|Jp<|Jg3 R<|wr2 z g m.len_le ▸ ?_
 cases h
 exact Ja2 ⟨s,b+1,R,(T4 f k a u).wk R,nxz z,nxm g,d⟩ R
 refine JT λh=>Jx R<|Jf3 R<|Ju<|Ja1<|Jw<|Jw ?_
 cases h
 obtain rfl:=zt d
 have h:=yL y
 refine Ja1<|Jr2<|Jw<|Jb2 (l:=[.tmp 4]) results91 (Jq2 R R) R ?_
 cases h
 exact⟨s,R,(x.stp<|T4 f k a u)⟩
 rintro _ ad ⟨I,rfl,K,rfl⟩
 have h:=yI y
 refine Jp<|Jf3 R<|Ju<|Jb2 (l:=[.tmp 4]) results91 (Jq2 R R) R ?_
 cases h
 exact⟨I,R,(x.stp K)⟩
theorem rT {o q}{p0:VI}{p1:Int}(a:Rd Ri J w 0 o q p0){r:VI}(h:g6 p0 p1=some r):Ret prog 24 [.slice o p0.length q,vi p1] w (λaj c=>∃(d:Col) (H:Option Addr) (I:Nat),aj= .slice H r.length I/\Ent J w d c/\Rd Ri d c 0 H I r):=by
 unfold g6 at h
 refine Jp3 J func24 R ntmps24 R λy=>Jf3 R<|Jf3 R<|Jq<|Ob h λG ae ad=>?_
 clear h
 refine Jt3 [0,1] (λj k c=>∃d i,k=(5,vi i)::j/\Stp [] J w d c/\G=zw i) ?_ ?_
 refine Jv<|Ju3 [0,1] (λg j k c=>∃d b,k=(5,vi b)::j/\Stp [] J w d c/\bn (dR p0 p1) g b=some G) ⟨_,_,⟨J,(0:Int),R,Jo3,ae⟩,(KM R)⟩ ?_
 rintro g _ am ⟨Q,b,rfl,n,h⟩
 rcases g with _|g
 cases h
 obtain⟨aB,h,z⟩:=BI h;unfold dR at h
 refine Jq<|Jl3 2 R<|Js3 R U27 R R<|Jn 2 R<|Ob h λE h ab=>Jk4 [0,1,5] 18 E Q am 7 tv ?_ ?_
 revert h
 cases aw:decide (b<(p0.length:Int))
 refine JF λh=>Jn 3 R<|Je4 R<|Jn 3 R ?_
 cases h
 exact Jl4 tv R
 refine JT λh=>Jn 2 R<|Ob h λaH A h=>Jd3 R a A U27 Z2<|Jc3 R I2 ((a.stp n).gInt A)<|Jn 3 R ?_
 cases h
 exact Jl4 tv R
 rintro _ aC _ ⟨rfl,s,u⟩
 have h:=ab
 refine Jd ?_
 revert h
 cases ax:E
 refine JF λh=>Jy R<|Jc1<|Jt<|Jt ?_
 cases h
 have h:=z
 refine Jb1 ?_
 cases h
 exact Jw1 _ ⟨s,b,R,(n.tr u).wk R,R⟩<|KM R
 refine JT λh=>Jx R<|Js<|Jp<|Jv<|Jg3 R<|Jz ?_
 cases h
 exact Ja2 ⟨s,((zr .i64<|b+1):Int),R,(n.tr u).wk R,z⟩ R
 rintro _ ak ⟨N,i,rfl,e,rfl⟩
 have h:=yI ad
 refine Jp<|Jq<|Jl3 2 R<|Js3 R U27 R R<|Jn 2 R<|Ob h λF h ac=>Jk4 [0,1,5] 32 F N ak 7 tv ?_ ?_
 revert h
 cases ay:decide (i<(p0.length:Int))
 refine JF λh=>Jn 3 R<|Je4 R<|Jn 3 R ?_
 cases h
 exact Jl4 tv R
 refine JT λh=>Jn 2 R<|Ob h λaI B h=>Jd3 R a B U27 Z2<|Jc3 R I2 ((a.stp e).gInt B)<|Jn 3 R ?_
 cases h
 exact Jl4 tv R
 rintro _ aD _ ⟨rfl,t,f⟩
 have h:=ac
 refine Jd ?_
 revert h
 cases az:F
 refine JF λh=>Jy R<|Js<|Jp<|Jl3 2 R<|Ob h λaJ C h=>Jf R (jE (k1:= .i64) (k2:= .i64) U27 Z2 (.inl ⟨R,R⟩) (.inr ⟨_,R,R⟩) C a.1 R R R) ?_
 have p:=a.stp (e.tr f)
 refine Ob h λaK af h=>Jw3 R call23 (cW (J:=Mk t) (Jn3<|p.sub C) af) ?_
 rintro _ aE ⟨aA,ao,aq,rfl,W,X⟩
 obtain⟨K,v,ai⟩:=Ji W 2 R
 refine Tv<|Jn 1 R<|Ji4 K 5 [p1] R Y27 aR R λau ap aF L m Y=>Tv<|Ob h λaL ag h=>Jd4 L E6 4 [] R Y27 aR R ((X.mx (aT _) ai R (R:2+2=4)).stp m) (zu (bo _) Y.rdc) aV ag R λar av aG M x Z=>Tv<|Jb 1 R<|Jl3 3 R<|Ob h λaM D h=>Jf R (jE (k1:= .i64) (k2:= .i64) U27 Z2 (.inr ⟨_,R,R⟩) (.inl ⟨R,R⟩) D p.1 R R R)<|Ob h λaN ah h=>Jd4 M E6 4 [] R Y27 aR R Z (zu (bo _) ((p.stp<|T3 v m x).sub D)) aV ah R λV U al O S aa=>Tv<|Jb 1 R<|Ju ?_
 obtain⟨P,T,an⟩:=b9 O al 4
 refine Jb2 (l:=[.tmp 4]) results24 (Jq2 R R) R ?_
 cases h
 exact⟨P,V,U,R,(y.stp<|T7 e f v m x S T),(Sl.st an aa.rdc)⟩
 refine JT λh=>Jx R<|Jf3 R<|Ju<|Jw<|Jb2 (l:=[.tmp 4]) results24 (Jq2 R R) R ?_
 cases h
 exact⟨t,o,q,R,(y.stp<|e.tr f),(a.stp<|e.tr f)⟩
theorem rU {z E}{p0:VI}(s:Rd Ri J w 0 z E p0){r:ByteArray}(h:oI p0=some r):Ret prog 29 [.slice z p0.length E] w (λaj a=>∃(b:Col),aj= .string r/\Ent J w b a):=by
 unfold oI at h
 refine Jp3 J func29 R ntmps29 R λab=>Jf3 R<|Jj3<|Jc4 J Ep.str 2 R Y38 cG R λS ai F m y aa=>Tv<|Jb 1 R<|Jq<|Jf3 R<|Ob h λD ad ac=>?_
 clear h
 refine Jx1 (λn a=>∃b,∃k:(List ByteArray),∃q p,n=[(3,.slice q k.length p)]/\Stp [2] m F b a/\Oc Ep.str 9 b a 2 q p k/\D=zw k) ?_ ?_
 refine Jv<|Ju3 [0] (λd H n a=>∃b c,∃e:(List ByteArray),∃g f,n=(3,.slice g e.length f)::(4,vi c)::H/\Stp [2] m F b a/\Oc Ep.str 9 b a 2 g f e/\0<=c/\zq ((p0.length:Int)-c)=d/\cntM (kA p0) d c e=some D) ⟨_,_,⟨m,0,(([]:List ByteArray):(List ByteArray)),S,ai,R,Jo3,aa,(by decide),(by simp),ad⟩,(KM R)⟩ ?_
 rintro d _ ar ⟨u,c,e,g,f,rfl,o,A,B,i,h⟩
 rcases d with _|d
 have j:=h;obtain⟨ah,h⟩:=exq j
 have t:=dcf i
 refine Jq<|Jl3 2 R<|Js3 R U27 R R<|Jb 1 R<|Jx2 R t<|Jc1<|Jt<|Jt ?_
 cases h
 have h:=j
 refine Jb1 ?_
 cases h
 exact Jw1 _ ⟨u,e,g,f,R,o.wk R,A,R⟩<|KM R
 obtain⟨ah,h,j⟩:=BI h;unfold kA at h
 have t:=dct i
 refine Jq<|Jl3 2 R<|Js3 R U27 R R<|Jb 1 R<|Jw2 R t<|Js<|Jp<|Jq<|Jv<|Jm3 3 R<|Ob h λaz C h=>Jd3 R s C U27 Z2<|Jc3 R I2 ((s.stp<|y.tr o).gInt C)<|Ob h λG ae h=>Jw3 R call27 (oH (J:=Mk u) ae) ?_
 rintro _ au ⟨an,rfl,V⟩
 obtain⟨I,v,ap⟩:=Ji V 3 R
 refine Tv<|Jb4 I Ep.str 5 [] (parts:=[(0,.tmp 17)]) (cells:=[.string G]) (xs:=([G]:List ByteArray)) R Y38 cG R (Jj4 R) λam al av K x Y=>Tv<|Ob h λak af h=>Jd4 K Ep.str 2 [] R Y38 cG R (A.stp<|v.tr x) (zu sL Y.rdc) aV af R λT U aw L P Z=>Tv<|Jc 1 R<|Jz<|Jp<|Jg3 R<|wr2 B i s.len_le ▸ ?_
 cases h
 exact Ja2 ⟨L,c+1,ak,T,U,R,(T4 o v x P).wk R,Z,nxz B,nxm i,j⟩ R
 rintro _ ay ⟨N,k,q,p,rfl,O,X,rfl⟩
 have h:=yI ac
 refine Jp<|Jl3 1 R<|Ob h λaA ag h=>Jw3 R call26 (mv (J:=Mk N) (Jn3 X.rdc) ag) ?_
 rintro _ ax ⟨ao,rfl,W⟩
 obtain⟨M,Q,aq⟩:=Ji W 3 R
 refine Tv<|Jb 1 R<|Ju<|Jb2 (l:=[.tmp 2]) results29 (Jq2 R R) R ?_
 cases h
 exact⟨M,R,(ab.stp<|T3 y O Q)⟩
theorem qI {D y A C z B}{p0:Parity}{x O}{p1:VI}(ag:Rd Ri J w 0 D y p0.Arena.Owner) (F:Rd Rs J w 0 A C p0.Arena.Next) (ah:Rd Ri J w 0 z B p0.Prio) (o:Rd Ri J w 0 x O p1){r:Bool}(h:jM p0 p1=some r):Ret prog 92 [.agg #[.slice D p0.Arena.Owner.length y,.slice A p0.Arena.Next.length C,.slice z p0.Prio.length B],.slice x p1.length O] w (Pvb J w r):=by
 unfold jM at h
 refine Jp3 J func92 R ntmps92 R λp=>Jj3<|Jx3 J 2 R λaf P i d E=>Tv<|Jb 1 R<|Jq<|Jl3 1 R<|Js3 R U27 R R<|Je3 R U32 R Z27<|Jc3 R I27 (E.ld 2 R R)<|Js3 R U27 R R<|Jb 1 R ?_
 revert h
 cases ak:((p1.length:Int) !=(p0.Prio.length:Int))
 refine JF λh=>Jy R<|Js<|Jp<|Jq<|Jf3 R<|Ob h λN Y G=>?_
 clear h
 refine Jx1 (λk s=>∃t,k=[]/\Stp [] i P t s/\N=zw ()) ?_ ?_
 refine Jv<|Ju3 [1,2] (λf Q k s=>∃t b,k=(5,vi b)::Q/\Stp [] i P t s/\0<=b/\zq ((p1.length:Int)-b)=f/\cntM (fY p0 p1) f b ()=some N) ⟨_,_,⟨i,0,R,Jo3,(by decide),(by simp),Y⟩,(KM R)⟩ ?_
 rintro f _ ap ⟨g,b,rfl,a,H,j,h⟩
 rcases f with _|f
 have e:=h;obtain⟨aa,h⟩:=exq e
 have q:=dcf j
 refine Jq<|Jl3 2 R<|Js3 R U27 R R<|Jb 1 R<|Jx2 R q<|Jc1<|Jt<|Jt ?_
 cases h
 have h:=e
 refine Jb1 ?_
 cases h
 exact Jw1 _ ⟨g,R,a.wk R,R⟩ KN
 obtain⟨aa,h,e⟩:=BI h;unfold fY at h
 have q:=dct j
 refine Jq<|Jl3 2 R<|Js3 R U27 R R<|Jb 1 R<|Jw2 R q<|Js<|Jp<|Jq<|Jv<|Jq<|Js1 (J:=g) [0,2] none [(0,2),(1,2),(2,2),(3,0),(4,2),(5,2),(6,2),(7,2),(9,2),(12,2),(13,2),(14,2),(8,0),(10,2),(11,0),(15,0),(16,1),(17,2),(18,2)] [] (by kernel_rfl) (by kernel_rfl) λab c=>Jn 2 R<|Ob h λac I h=>Jd3 R o I U27 Z2 ?_
 have n:=o.stp (T3 d a c)
 refine Jg R (Jd2 I2 R R<|hvC (n.gInt I) R)<|Jn 2 R<|Ob h λM h W=>Jk4 [1,2,5] 36 M g ab 13 (Cl.refl _ _ _) ?_ ?_
 revert h
 cases ai:(ac !=(-1))
 refine JF λh=>Jn 6 R<|Jf4 R<|Jn 1 R<|Jf4 R<|Jf4 R<|Je4 R<|Jn 2 R ?_
 cases h
 exact Jv1 _ (Cl.refl _ _ _) ⟨R,_,Jo3⟩<|KM R
 refine JT λh=>Je3 R U32 R Z30<|Je3 R U30 R Z28<|Jn 3 R<|Ob h λav L h=>Jd3 R n L U27 Z2<|Jg R (Jd2 I28 R R<|hvC ((E.stp<|a.tr c).ld 1 R R) R)<|Ob h λau K h=>Jd3 R F K U28 Z27 ?_
 obtain⟨ae,an,V,X⟩:=(F.stp (T3 d a c)).gSl K
 refine Jg R (Jd2 I27 R R<|hvC X R)<|Jg R (Jd2 I2 R R<|hvC (n.gInt L) R)<|Ob h λaw Z h=>Jw3 R call144 (qG (J:=Mk g) (Jn3 V) Z) ?_
 rintro _ aq ⟨al,rfl,U⟩
 obtain⟨ad,m,am⟩:=Ji U 3 R
 refine⟨(m.cl R),Jn 2 R ?_⟩
 cases h
 exact Jv1 _ (m.cl R) ⟨R,_,m.wk R⟩<|KM R
 rintro _ ar _ ⟨rfl,u,v⟩
 have h:=W
 refine Jt1<|Jd ?_
 revert h
 cases aj:M
 refine JF λh=>Jy R<|Js<|Jz<|Jp<|Jg3 R<|wr2 H j o.len_le ▸ ?_
 cases h
 exact Ja2 ⟨u,b+1,R,(T3 a c v).wk R,nxz H,nxm j,e⟩ R
 refine JT λh=>Jx R<|Jf3 R<|Ju<|Ja1<|Jw<|Jw ?_
 cases h
 obtain rfl:=zt e
 have h:=yL G
 refine Ja1<|Jr2<|Jw<|Jb2 (l:=[.tmp 4]) results92 (Jq2 R R) R ?_
 cases h
 exact⟨u,R,(p.stp<|T4 d a c v)⟩
 rintro _ ao ⟨S,rfl,T,rfl⟩
 have h:=yI G
 refine Jp<|Jf3 R<|Ju<|Jb2 (l:=[.tmp 4]) results92 (Jq2 R R) R ?_
 cases h
 exact⟨S,R,(p.stp<|d.tr T)⟩
 refine JT λh=>Jx R<|Jf3 R<|Ju<|Jw<|Jb2 (l:=[.tmp 4]) results92 (Jq2 R R) R ?_
 cases h
 exact⟨i,R,(p.stp d)⟩
theorem sZ {C D x y B z v u E A}{p0:l7Game}{t M}{p1:VB}(ag:Rd Ri J w 0 C D p0.owner) (F:Rd Ri J w 0 x y p0.prio) (ah:Rd Rs J w 0 B z p0.next) (ai:Rd Rs J w 0 v u p0.prev) (aj:Rd Ri J w 0 E A p0.pick) (p:Rd Rp.bool J w 0 t M p1){r:Int}(h:my p0 p1=some r):Ret prog 93 [.agg #[.slice C p0.owner.length D,.slice x p0.prio.length y,.slice B p0.next.length z,.slice v p0.prev.length u,.slice E p0.pick.length A],.slice t p1.length M] w (Pvi J w r):=by
 unfold my at h
 refine Jp3 J func93 R ntmps93 R λX=>Jj3<|Jx3 J 2 R λaf N n o W=>Tv<|Jb 1 R<|Jf3 R<|Jq<|Jf3 R<|Ob h λK aa Z=>?_
 clear h
 refine Jx1 (λb e=>∃f s,b=[(5,vi s)]/\Stp [] n N f e/\K=zw s) ?_ ?_
 refine Jv<|Ju3 [1,2] (λd m b e=>∃f a k,b=(5,vi k)::(6,vi a)::m/\Stp [] n N f e/\0<=a/\zq ((p1.length:Int)-a)=d/\cntM (iQ p0 p1) d a k=some K) ⟨_,_,⟨n,0,((-1):Int),R,Jo3,(by decide),(by simp),aa⟩,(KM R)⟩ ?_
 rintro d _ ad ⟨g,a,k,rfl,c,G,i,h⟩
 rcases d with _|d
 have j:=h;obtain⟨ac,h⟩:=exq j
 have q:=dcf i
 refine Jq<|Jl3 2 R<|Js3 R U71 R R<|Jb 1 R<|Jx2 R q<|Jc1<|Jt<|Jt ?_
 cases h
 have h:=j
 refine Jb1 ?_
 cases h
 exact Jw1 _ ⟨g,k,R,c.wk R,R⟩<|KM R
 obtain⟨ac,h,j⟩:=BI h;unfold iQ at h
 have q:=dct i
 refine Jq<|Jl3 2 R<|Js3 R U71 R R<|Jb 1 R<|Jw2 R q<|Js<|Jp<|Jq<|Jv<|Jl3 2 R<|Ob h λae H h=>Jd3 R p H U71 Z4<|Jc3 R I4 ((p.stp<|o.tr c).gBool H)<|Jd<|Ob h λL h Y=>Jt3 [1,2,6] (λm b e=>∃f,b=(5,vi L)::m/\Stp [] g ad f e) ?_ ?_
 revert h
 cases ak:ae
 refine JF λh=>Jy R<|Js ?_
 cases h
 exact Jw1 _ ⟨g,R,Jo3⟩<|KM R
 refine JT λh=>Jx R<|Jm3 1 R<|Je3 R U69 R Z27<|Jc3 R I27 ((W.stp c).ld 1 R R)<|Jn 1 R<|Ob h λaq I h=>Jd3 R F I U27 Z2<|Jc3 R I2 ((F.stp<|o.tr c).gInt I)<|Ob h λar ab h=>Jw3 R call145 (sX (J:=Mk g) ab) ?_
 rintro _ ao ⟨al,rfl,V⟩
 obtain⟨P,U,am⟩:=Ji V 3 R
 refine Tv<|Jc 1 R ?_
 cases h
 exact Jw1 _ ⟨P,R,U.wk R⟩<|KM R
 rintro _ an ⟨O,rfl,T⟩
 have h:=Y
 refine Jz<|Jp<|Jg3 R<|wr2 G i p.len_le ▸ ?_
 cases h
 exact Ja2 ⟨O,a+1,L,R,(c.tr T).wk R,nxz G,nxm i,j⟩ R
 rintro _ ap ⟨Q,s,rfl,S,rfl⟩
 have h:=yI Z
 refine Jp<|Jf3 R<|Ju<|Jb2 (l:=[.tmp 4]) results93 (Jq2 R R) R ?_
 cases h
 exact⟨Q,R,(X.stp<|o.tr S)⟩
theorem pq {B C v x A y u t D z}{p0:l7Game}{s Q}{p1:VB}{p2:Int}(ab:Rd Ri J w 0 B C p0.owner) (ac:Rd Ri J w 0 v x p0.prio) (F:Rd Rs J w 0 A y p0.next) (ad:Rd Rs J w 0 u t p0.prev) (ae:Rd Ri J w 0 D z p0.pick) (G:Rd Rp.bool J w 0 s Q p1){r:Int}(h:iP p0 p1 p2=some r):Ret prog 146 [.agg #[.slice B p0.owner.length C,.slice v p0.prio.length x,.slice A p0.next.length y,.slice u p0.prev.length t,.slice D p0.pick.length z],.slice s p1.length Q,vi p2] w (Pvi J w r):=by
 unfold iP at h
 refine Jp3 J func146 R ntmps146 R λaf=>Jj3<|Jx3 J 2 R λaw S n g aa=>Tv<|Jb 1 R<|Jf3 R<|Jq<|Jf3 R<|Ob h λO al ai=>?_
 clear h
 refine Jx1 (λc d=>∃e,∃q:Int×Int,c=[(7,vi q.1)]/\Stp [] n S e d/\O=zw q) ?_ ?_
 refine Jv<|Ju3 [1,2,3] (λj k c d=>∃e,∃a:Int×Int,c=(7,vi a.1)::(8,vi a.2)::k/\Stp [] n S e d/\bn (eG p0 p1 p2) j a=some O) ⟨_,_,⟨n,((0:Int),(0:Int)),R,Jo3,al⟩,(KM R)⟩ ?_
 rintro j _ an ⟨m,a,rfl,b,h⟩
 rcases j with _|j
 cases h
 obtain⟨aD,h,H⟩:=BI h;unfold eG at h
 refine Jq<|Jl3 1 R<|Je3 R U69 R Z28 ?_
 have p:=aa.stp b
 refine Jc3 R I28 (p.ld 2 R R)<|Jn 1 R<|Ob h λap I h=>Jd3 R F I U28 Z27 ?_
 have i:=F.stp (g.tr b)
 obtain⟨au,aE,ax,aj⟩:=i.gSl I
 refine Jc3 R I27 aj<|Js3 R U27 R R<|Jb 1 R ?_
 revert h
 cases ay:decide (a.2<(ap.length:Int))
 refine JF λh=>Jy R<|Jc1<|Jt<|Jt ?_
 cases h
 have h:=H
 refine Jb1 ?_
 cases h
 exact Jw1 _ ⟨m,(a.1,a.2),R,b.wk R,R⟩<|KM R
 refine JT λh=>Jx R<|Js<|Jp<|Jq<|Jv<|Jj3<|Je3 R U69 R Z28<|Jc3 R I28 (p.ld 2 R R)<|Jn 1 R<|Ob h λaJ K h=>Jd3 R i K U28 Z27 ?_
 obtain⟨av,aF,E,ak⟩:=i.gSl K
 refine Jc3 R I27 ak<|Jn 1 R<|Ob h λaK L h=>Jd3 R E L U27 Z2<|Jc3 R I2 (E.gInt L)<|Jb 1 R<|Jl3 2 R<|Ob h λaq M h=>Jd3 R G M U71 Z4<|Jc3 R I4 ((G.stp<|g.tr b).gBool M)<|Jn 1 R<|Ob h λN h ag=>Jk4 [1,2,3,7,8] 37 N m an 5 tv ?_ ?_
 revert h
 cases az:aq
 refine JF λh=>Je4 R<|Jn 2 R<|Je4 R<|Jn 1 R ?_
 cases h
 exact Jl4 tv R
 have f:=(g.tr b)
 refine JT λh=>Jg4 tv R (Jh4 (haE p.cells) I69 Z69 R)<|Jn 2 R<|Ob h λaL am h=>Jw3 R call147 (ni (J:=Mk m) (p0:=p0) (Jn3<|ab.stp f) (Jn3<|ac.stp f) (Jn3 i) (Jn3<|ad.stp f) (Jn3<|ae.stp f) am) ?_
 rintro _ aG ⟨aB,rfl,Z⟩
 obtain⟨ar,W,aC⟩:=Ji Z 3 R
 refine Tv<|Jn 1 R ?_
 cases h
 exact Jv1 _ tv ⟨R,_,W.wk R⟩<|KM R
 rintro _ ao _ ⟨rfl,o,X⟩
 have h:=ag
 refine Jd<|Ob h λP h ah=>Jt3 [1,2,3,8] (λk c d=>∃e,c=(7,vi P)::k/\Stp [] o ao e d) ?_ ?_
 revert h
 cases aA:N
 refine JF λh=>Jy R<|Js ?_
 cases h
 exact Jw1 _ ⟨o,R,Jo3⟩<|KM R
 refine JT λh=>Jx R<|Jg3 R ?_
 cases h
 exact Jw1 _ ⟨o,R,Jo3⟩<|KM R
 rintro _ aH ⟨T,rfl,Y⟩
 have h:=ah
 refine Jz<|Jp<|Jg3 R ?_
 cases h
 exact Ja2 ⟨T,(P,((zr .i64<|a.2+1):Int)),R,(T3 b X Y).wk R,H⟩ R
 rintro _ aI ⟨U,q,rfl,V,rfl⟩
 have h:=yI ai
 refine Jp<|Jf3 R<|Ju<|Jb2 (l:=[.tmp 6]) results146 (Jq2 R R) R ?_
 cases h
 exact⟨U,R,(af.stp<|g.tr V)⟩
theorem nt {p0:ByteArray}{p1:Int}(aH:Rd Rp.str J w 0 (some ⟨0,0,none⟩) 2 ec) (aI:Vm 2 J w){r:Int×Int×VI×Bool}(h:cY p0 p1=some r):Ret prog 63 [.string p0,vi p1] w (λaX b=>∃(c:Col) (af:Option Addr) (ag:Nat),aX= .tuple #[vi r.1,vi r.2.1,.slice af r.2.2.1.length ag,.bool r.2.2.2]/\Ent J w c b/\Oc E6 2 c b 2 af ag r.2.2.1):=by
 unfold cY at h
 refine Jp3 J func63 R ntmps63 R λg=>Jf3 R<|Jq<|Jl3 3 R<|Ob h λab h aJ=>Jk4 [0,1] 22 ab J w 3 tv ?_ ?_
 revert h
 cases a9:decide (p1<1)
 refine JF λh=>Jn 3 R ?_
 cases h
 exact Jl4 tv R
 refine JT λh=>Jn 3 R ?_
 cases h
 exact Jl4 tv R
 rintro _ bs _ ⟨rfl,K,a⟩
 have h:=aJ
 refine Jd ?_
 revert h
 cases bd:ab
 refine JF λh=>Jy R<|Js<|Jp<|Jl3 1 R<|Ob h λa0 aN h=>Jw3 R call19 (gu (J:=Mk K) ((aI.stp a).map (mp [] 0) R R) aN) ?_
 rintro _ aZ ⟨bg,a4,a6,rfl,ay,aD⟩
 obtain⟨ak,e,aU⟩:=Ji ay 2 R
 refine Tv<|?_
 have S:=aD.mx qe aU R (R:2+2=4)
 refine Jb 1 R<|Jq<|Jl3 1 R<|Js3 R U38 R R<|Jn 2 R<|Ob h λac h aK=>Jk4 [1,8] 32 ac ak aZ 4 tv ?_ ?_
 revert h
 cases a8:decide ((a0.length:Int)<3)
 refine JF λh=>Jn 1 R<|Js3 R U38 R R<|Jn 2 R ?_
 cases h
 exact Jl4 tv R
 refine JT λh=>Jn 4 R ?_
 cases h
 exact Jl4 tv R
 rintro _ bq _ ⟨rfl,I,d⟩
 have h:=aK
 refine Jd ?_
 revert h
 cases ba:ac
 refine JF λh=>Jy R<|Js<|Jp<|Jl3 1 R<|Ob h λbB X h=>Jd3 R S.rdc X U38 Z9 ?_
 have E:=S.stp d
 refine Jc3 R I9 (E.rdc.gStr X)<|Ob h λa1 aO h=>Jw3 R call43 (j7 (J:=Mk I) aO) ?_
 rintro _ br ⟨bh,rfl,az⟩
 obtain⟨al,f,bl⟩:=Ji az 5 R
 refine Tv<|Jb 5 R<|Jl3 1 R<|Ob h λbC Y h=>Jd3 R E.rdc Y U38 Z9 ?_
 have F:=E.stp f
 refine Jc3 R I9 (F.rdc.gStr Y)<|Ob h λbD aP h=>Jw3 R call104 (pj (J:=Mk al) ((aH.stp<|T4 a e d f).map (mp [] 0) R R) aP) ?_
 rintro _ aY ⟨bi,rfl,aA⟩
 obtain⟨am,j,bm⟩:=Ji aA 7 R
 refine Tv<|Jb 1 R<|Jq<|Jl3 3 R<|Ob h λad h aL=>Jk4 [1,8,9,11] 49 ad am aY 3 tv ?_ ?_
 revert h
 cases bb:(!a1.2)
 refine JF λh=>Jn 3 R ?_
 cases h
 exact Jl4 tv R
 refine JT λh=>Jn 3 R ?_
 cases h
 exact Jl4 tv R
 rintro _ bt _ ⟨rfl,L,k⟩
 have h:=aL
 refine Jd ?_
 revert h
 cases bc:ad
 refine JF λh=>Jy R<|Js<|Jp<|Jj3<|Jc4 L E6 9 R Y27 aR R λav aw ah A p aE=>Tv<|Jb 1 R<|Jq<|Jl3 1 R<|Ob h λai Z h=>Jf R (jE (k1:= .i64) (k2:= .i64) U38 Z9 (.inr ⟨_,R,R⟩) (.inl ⟨R,R⟩) Z F.rdc.1 R R R) ?_
 have G:=(F.stp (T3 j k p)).rdc.sub Z
 refine Js3 R U38 R R<|Jb 1 R<|Ob h λae aM V=>?_
 clear h
 refine Jt3 [1,9,11] (λz B b=>∃c,∃y:VI,∃t s,B=(12,.slice t y.length s)::z/\Stp [9] A ah c b/\Oc E6 2 c b 9 t s y/\ae=zw y) ?_ ?_
 refine Jv<|Ju3 [1,9,11,52,53] (λn z B b=>∃c i,∃o:VI,∃v u,B=(12,.slice v o.length u)::(54,vi i)::z/\Stp [9] A ah c b/\Oc E6 2 c b 9 v u o/\0<=i/\zq ((ai.length:Int)-i)=n/\cntM (ib p1 ai) n i o=some ae) ⟨_,_,⟨A,0,([]:VI),av,aw,R,Jo3,aE,(by decide),(by simp),aM⟩,(KM R)⟩ ?_
 rintro n _ bv ⟨M,i,o,v,u,rfl,q,U,W,x,h⟩
 rcases n with _|n
 have m:=h;obtain⟨aW,h⟩:=exq m
 have H:=dcf x
 refine Jf3 R<|Jq<|Jx2 R H<|Jc1<|Jt<|Jt ?_
 cases h
 have h:=m
 refine Jb1 ?_
 cases h
 exact Jw1 _ ⟨M,o,v,u,R,q.wk R,U,R⟩<|KM R
 obtain⟨aW,h,m⟩:=BI h;unfold ib at h
 have H:=dct x
 refine Jf3 R<|Jq<|Jw2 R H<|Js<|Jp<|Jq<|Jv<|Jj3<|Ob h λbE aa h=>Jd3 R G aa U38 Z9<|Jc3 R I9 ((G.stp q).gStr aa)<|Jb 1 R<|Jl3 2 R<|Ob h λaj aQ h=>Jw3 R call43 (j7 (J:=Mk M) aQ) ?_
 rintro _ bw ⟨bj,rfl,aB⟩
 obtain⟨N,C,bn⟩:=Ji aB 10 R
 refine Tv<|Jb 5 R<|Jq<|Jf3 R ?_
 revert h
 cases be:(!aj.2)
 refine JF λh=>Jy R<|Js<|Jp<|Jm3 2 R<|Ji4 N 12 [aj.1] R Y27 aR R λa5 a7 bx ao Q aF=>Tv<|Ob h λa2 aS h=>Jd4 ao E6 9 [] R Y27 aR R (U.stp<|C.tr Q) (zu (bo _) aF.rdc) aV aS R λar au bz ap aq aG=>Tv<|Jc 1 R<|Jz<|Jp<|Jg3 R<|wr2 W x G.len_le ▸ ?_
 cases h
 exact Ja2 ⟨ap,i+1,a2,ar,au,R,(T4 q C Q aq).wk R,aG,nxz W,nxm x,m⟩ R
 refine JT λh=>Jx R<|Jf3 R<|Ju<|Jw<|Ja1<|Jw<|Jw ?_
 cases h
 obtain rfl:=zt m
 have h:=yL V
 refine Ja1<|Jr2<|Jw<|Jb2 (l:=[.tmp 4,.tmp 5,.tmp 6,.tmp 7]) V63 (Jq2 R<|Jq2 R<|Jq2 R<|Jq2 R R) R ?_
 cases h
 exact⟨N,none,0,R,(g.stp<|T9 a e d f j k p q C),Ow.nil⟩
 rintro _ bu ⟨an,y,t,s,rfl,P,T,rfl⟩
 have h:=yI V
 refine Jp<|Jq<|Jl3 2 R<|Ob h λa3 aT h=>Jw3 R call102 (og (J:=Mk an) (Jn3 T.rdc) aT) ?_
 rintro _ bA ⟨bk,rfl,aC⟩
 obtain⟨O,D,bp⟩:=Ji aC 10 R
 refine Tv<|Jb 1 R ?_
 revert h
 cases bf:(!a3)
 refine JF λh=>Jy R<|Js<|Jp<|Jf3 R<|Ju<|Jb2 (l:=[.tmp 4,.tmp 5,.tmp 6,.tmp 7]) V63 (Jq2 R<|Jq2 R<|Jq2 R<|Jq2 R R) R ?_
 cases h
 exact⟨(λax=>ren [(9,2)]<|O ax),t,s,R,((g.stp<|T9 a e d f j k p P D).map (ren [(9,2)]) R R),((T.stp D).map (ren [(9,2)]) R R)⟩
 refine JT λh=>Jx R<|Jf3 R<|Ju<|Jw<|Jb2 (l:=[.tmp 4,.tmp 5,.tmp 6,.tmp 7]) V63 (Jq2 R<|Jq2 R<|Jq2 R<|Jq2 R R) R ?_
 cases h
 exact⟨O,none,0,R,(g.stp<|T9 a e d f j k p P D),Ow.nil⟩
 refine JT λh=>Jx R<|Jf3 R<|Ju<|Jw<|Jb2 (l:=[.tmp 4,.tmp 5,.tmp 6,.tmp 7]) V63 (Jq2 R<|Jq2 R<|Jq2 R<|Jq2 R R) R ?_
 cases h
 exact⟨L,none,0,R,(g.stp<|T6 a e d f j k),Ow.nil⟩
 refine JT λh=>Jx R<|Jf3 R<|Ju<|Jw<|Jb2 (l:=[.tmp 4,.tmp 5,.tmp 6,.tmp 7]) V63 (Jq2 R<|Jq2 R<|Jq2 R<|Jq2 R R) R ?_
 cases h
 exact⟨I,none,0,R,(g.stp<|T3 a e d),Ow.nil⟩
 refine JT λh=>Jx R<|Jf3 R<|Ju<|Jw<|Jb2 (l:=[.tmp 4,.tmp 5,.tmp 6,.tmp 7]) V63 (Jq2 R<|Jq2 R<|Jq2 R<|Jq2 R R) R ?_
 cases h
 exact⟨K,none,0,R,(g.stp a),Ow.nil⟩
theorem mc {p0 : Int} (gGT : Tb prog "internal/strconv.uint64pow10" .u64 Lib.pow10Tab J w) {r : ByteArray} (h : iy p0 = some r) : Ret prog 62 [vi p0] w (fun v w' => ∃ (κ' : Col), v = .string r ∧ Ent J w κ' w') := by
 unfold iy at h
 refine Jp3 J func62 R ntmps62 R λhE=>Jf3 R<|Jl3 1 R<|Ob h λx4 hx4 h=>Jw3 R call103 (kG (J:=Mk J) (gGT.map (mp [] 0) R R) hx4) ?_
 rintro _ w1 ⟨k2,rfl,e3⟩
 obtain⟨K4,S5,m6⟩:=Ji e3 2 R
 refine Tv<|Jb 1 R<|Ju<|Jb2 (l:=[.tmp 2]) results62 (Jq2 R R) R ?_
 cases h
 exact⟨K4,R,(hE.stp S5)⟩
theorem lV {C D E F}{p0:Arena}(I:Rd Ri J w 0 C D p0.Owner) (s:Rd Rs J w 0 E F p0.Next){r:Bool}(h:iw p0=some r):Ret prog 126 [.agg #[.slice C p0.Owner.length D,.slice E p0.Next.length F]] w (Pvb J w r):=by
 unfold iw at h
 refine Jp3 J func126 R ntmps126 R λt=>Jj3<|Jx3 J 2 R λaD au Z e q=>Tv<|Jb 1 R<|Jj3<|Je3 R U30 R Z27<|Jc3 R I27 (q.ld 0 R R)<|Js3 R U27 R R<|Jb 1 R<|Jq<|Jl3 3 R<|Ob h λP h an=>Jk4 [1,3] 14 P Z au 3 tv ?_ ?_
 revert h
 cases aK:decide ((p0.Owner.length:Int)<1)
 refine JF λh=>Jn 3 R ?_
 cases h
 exact Jl4 tv R
 refine JT λh=>Jn 3 R ?_
 cases h
 exact Jl4 tv R
 rintro _ az _ ⟨rfl,ad,a⟩
 have h:=an
 refine Jn 1 R<|Ob h λQ h ai=>Jk4 [1,3] 21 Q ad az 6 tv ?_ ?_
 revert h
 cases aE:P
 refine JF λh=>Je3 R U30 R Z28<|Jc3 R I28 ((q.stp a).ld 1 R R)<|Js3 R U28 R R<|Jn 3 R ?_
 cases h
 exact Jl4 tv R
 refine JT λh=>Jn 1 R<|Je4 R<|Jn 4 R ?_
 cases h
 exact Jl4 tv R
 rintro _ X _ ⟨rfl,i,b⟩
 have h:=ai
 refine Jd ?_
 revert h
 cases aF:Q
 refine JF λh=>Jy R<|Js<|Jp<|Jq<|Jj3<|Je3 R U30 R Z28 ?_
 have G:=q.stp (a.tr b)
 refine Jc3 R I28 (G.ld 1 R R)<|Js3 R U28 R R<|Jb 1 R<|Ob h λW ap K=>?_
 clear h
 refine Jx1 (λk v=>∃x,k=[]/\Stp [] i X x v/\W=zw ()) ?_ ?_
 refine Jv<|Ju3 [1,3,23,24] (λg Y k v=>∃x d,k=(25,vi d)::Y/\Stp [] i X x v/\0<=d/\zq ((p0.Next.length:Int)-d)=g/\cntM (ff p0) g d ()=some W) ⟨_,_,⟨i,0,R,Jo3,(by decide),(by simp),ap⟩,(KM R)⟩ ?_
 rintro g _ av ⟨y,d,rfl,c,L,j,h⟩
 rcases g with _|g
 have f:=h;obtain⟨ar,h⟩:=exq f
 have u:=dcf j
 refine Jf3 R<|Jq<|Jx2 R u<|Jc1<|Jt<|Jt ?_
 cases h
 have h:=f
 refine Jb1 ?_
 cases h
 exact Jw1 _ ⟨y,R,c.wk R,R⟩ KN
 obtain⟨ar,h,f⟩:=BI h;unfold ff at h
 have u:=dct j
 refine Jf3 R<|Jq<|Jw2 R u<|Js<|Jp<|Jq<|Jv<|Jl3 1 R<|Ob h λaS M h=>Jd3 R s M U28 Z27 ?_
 obtain⟨aC,aO,ah,ao⟩:=(s.stp (T4 e a b c)).gSl M
 refine Jc3 R I27 ao<|Jb 2 R<|Jj3<|Je3 R U30 R Z27 ?_
 have H:=G.stp c
 refine Jc3 R I27 (H.ld 0 R R)<|Jn 1 R<|Ob h λaA N h=>Jd3 R I N U27 Z2 ?_
 have p:=I.stp (T4 e a b c)
 refine Jc3 R I2 (p.gInt N)<|Jn 2 R<|Ob h λS h aj=>Jk4 [1,3,5,23,24,25] 43 S y av 7 tv ?_ ?_
 revert h
 cases aG:decide (aA<0)
 refine JF λh=>Je3 R U30 R Z27<|Jc3 R I27 (H.ld 0 R R)<|Jn 1 R<|Ob h λaT O h=>Jd3 R p O U27 Z2<|Jc3 R I2 (p.gInt O)<|Jn 2 R ?_
 cases h
 exact Jl4 tv R
 refine JT λh=>Jn 1 R<|Je4 R<|Jn 2 R<|Je4 R<|Jn 2 R ?_
 cases h
 exact Jl4 tv R
 rintro _ aw _ ⟨rfl,ab,m⟩
 have h:=aj
 refine Jn 1 R<|Ob h λT h ak=>Jk4 [1,3,5,23,24,25] 48 T ab aw 4 tv ?_ ?_
 revert h
 cases aH:S
 refine JF λh=>Jn 1 R<|Js3 R U27 R R<|Jn 2 R ?_
 cases h
 exact Jl4 tv R
 refine JT λh=>Jn 4 R ?_
 cases h
 exact Jl4 tv R
 rintro _ ax _ ⟨rfl,ac,n⟩
 have h:=ak
 refine Jn 1 R<|Ob h λU h al=>Jk4 [1,3,5,23,24,25] 53 U ac ax 4 tv ?_ ?_
 revert h
 cases aI:T
 refine JF λh=>Jn 1 R<|Js3 R U27 R R<|Jn 2 R ?_
 cases h
 exact Jl4 tv R
 refine JT λh=>Jn 4 R ?_
 cases h
 exact Jl4 tv R
 rintro _ ay _ ⟨rfl,z,o⟩
 have h:=al
 refine Jn 1 R<|Ob h λV h am=>Jk4 [1,3,23,24,25] 59 V z ay 5 tv ?_ ?_
 revert h
 cases aJ:U
 refine JF λh=>Jn 2 R<|Ob h λaU aq h=>Jw3 R call102 (og (J:=Mk z) (Jn3<|ah.stp<|T3 m n o) aq) ?_
 rintro _ aQ ⟨aM,rfl,ag⟩
 obtain⟨aB,af,aN⟩:=Ji ag 3 R
 refine Tv<|Jn 2 R ?_
 cases h
 exact Jv1 _ tv ⟨R,_,af.wk R⟩<|KM R
 refine JT λh=>Jn 2 R<|Je4 R<|Jn 2 R ?_
 cases h
 exact Jl4 tv R
 rintro _ aR _ ⟨rfl,A,B⟩
 have h:=am
 refine Jd ?_
 revert h
 cases aL:V
 refine JF λh=>Jy R<|Js<|Jz<|Jp<|Jg3 R<|wr2 L j s.len_le ▸ ?_
 cases h
 exact Ja2 ⟨A,d+1,R,(T5 c m n o B).wk R,nxz L,nxm j,f⟩ R
 refine JT λh=>Jx R<|Jf3 R<|Ju<|Ja1<|Jw<|Jw ?_
 cases h
 obtain rfl:=zt f
 have h:=yL K
 refine Ja1<|Jr2<|Jw<|Jb2 (l:=[.tmp 2]) results126 (Jq2 R R) R ?_
 cases h
 exact⟨A,R,(t.stp<|T8 e a b c m n o B)⟩
 rintro _ aP ⟨aa,rfl,ae,rfl⟩
 have h:=yI K
 refine Jp<|Jf3 R<|Ju<|Jb2 (l:=[.tmp 2]) results126 (Jq2 R R) R ?_
 cases h
 exact⟨aa,R,(t.stp<|T4 e a b ae)⟩
 refine JT λh=>Jx R<|Jf3 R<|Ju<|Jw<|Jb2 (l:=[.tmp 2]) results126 (Jq2 R R) R ?_
 cases h
 exact⟨i,R,(t.stp<|T3 e a b)⟩
theorem gg {d e b c}{p0:Arena}(u:Rd Ri J w 0 d e p0.Owner) (v:Rd Rs J w 0 b c p0.Next){r:VI}(h:ij p0=some r):Ret prog 143 [.agg #[.slice d p0.Owner.length e,.slice b p0.Next.length c]] w (Pvs E6 2 J w r):=by
 unfold ij at h
 refine Jp3 J func143 R ntmps143 R λx=>Jj3<|Jx3 J 2 R λB F i a t=>Tv<|Jb 1 R<|Jj3<|Jg4 tv R (Jh4 (haE t.cells) I30 Z30 R)<|Ob h λI y h=>Jw3 R call194 (pB (J:=Mk i) (p0:=p0) (Jn3<|u.stp a) (Jn3<|v.stp a) y) ?_
 rintro _ H ⟨D,rfl,q⟩
 obtain⟨f,j,E⟩:=Ji q 3 R
 refine Tv<|Ob h λK z h=>Jw3 R call193 (ss (J:=Mk f) z) ?_
 rintro _ G ⟨C,n,m,rfl,p,s⟩
 obtain⟨g,k,A⟩:=Ji p 5 R
 refine Tv<|Jb 1 R<|Ju<|Jb2 (l:=[.tmp 2]) results143 (Jq2 R R) R ?_
 cases h
 exact⟨(λo=>ren [(7,2)]<|g o),n,m,R,((x.stp<|T3 a j k).map (ren [(7,2)]) R R),((s.mx (aT _) A R (R:5+2=7)).map (ren [(7,2)]) R R)⟩
theorem jz {aU aY aW aX aZ a1 aS a0}{p0:solver}{p1:Int}{aO bG}{p2:VB}{aP bH}{aG:VB}{a3}(a9:Rd Ri J w 0 aU aY p0.game.Arena.Owner) (ba:Rd Rs J w 0 aW aX p0.game.Arena.Next) (dh:Rd Ri J w 0 aZ a1 p0.game.Prio) (bb:Rd Rs J w 0 aS a0 p0.preds) (aj:Rd Rp.bool J w 0 aO bG p2) (cv:Rd Rp.bool J w 0 aP bH aG) (cw:Bc J w 0 a3 218 [.slice aU p0.game.Arena.Owner.length aY,.slice aW p0.game.Arena.Next.length aX,.slice aZ p0.game.Prio.length a1,.slice aS p0.preds.length a0]){r:VB}(h:dw p0 p1 p2 aG=some r):Ret prog 223 [.pointer (some ⟨a3,0,none⟩),vi p1,.slice aO p2.length bG,.slice aP aG.length bH] w (Pvs zo 4 J w r):=by
 unfold dw at h
 refine Jp3 J func223 R ntmps223 R λcx=>Jf3 R<|Jj3<|Jc4 J zo 2 R Y71 bZ R λdb dc dv bX t cq=>Tv<|Jn 1 R<|Ob h λF cT h=>?_
 have a7:=cv.stp t
 refine Jd4 bX zo 2 [] R Y71 bZ R cq (zu tF a7) aV cT R λP Q dK b1 v cu=>Tv<|Jb 1 R<|Jl3 1 R<|Js3 R U71 R R<|Ob h λo cU h=>Jl1 (J:=b1) (E:=E6) (z:=(0:Int)) 3 R R R R R R R underlying304 tQ R R R R R (λ_ _ _=>R) (Jv2 cU) λy x dx bN p cg=>Tv<|Jb 1 R<|Jl3 1 R<|Ob h λc4 cV h=>Jw3 R call191 (eS (J:=Mk bN) (Jn3<|a7.stp<|v.tr p) cV) ?_
 rintro _ bI ⟨dr,cb,b9,rfl,cc,co⟩
 obtain⟨ap,q,cX⟩:=Ji cc 4 R
 refine Tv<|Jb 1 R<|Jq<|Ob h λbC cO cz=>?_
 clear h
 refine Jt3 [0,9] (λc i a=>∃b,∃E:VI×VB×VI,∃a2 aQ,i=c/\Stp [2,3,6] ap bI b a/\Oc E6 2 b a 6 a2 aQ E.1/\Oc zo 4 b a 2 P Q E.2.1/\F.length=E.2.1.length/\Oc E6 3 b a 3 y x E.2.2/\o.length=E.2.2.length/\bC=zw E) ?_ ?_
 refine Jv<|Ju3 [0,1,2,9,10] (λg c i a=>∃b,∃k:VI×VB×VI,∃S I,i=(11,.slice S k.1.length I)::c/\Stp [2,3,6] ap bI b a/\Oc E6 2 b a 6 S I k.1/\Oc zo 4 b a 2 P Q k.2.1/\F.length=k.2.1.length/\Oc E6 3 b a 3 y x k.2.2/\o.length=k.2.2.length/\bn (cP p0 p1 p2) g k=some bC) ⟨_,_,⟨ap,(c4,F,o),cb,b9,R,Jo3,(co.mx (aT _) cX R (R:4+2=6)),(cu.stp<|p.tr q),R,(cg.stp q),R,cO⟩,(KM R)⟩ ?_
 rintro g _ bJ ⟨ab,k,S,I,rfl,u,T,a4,bf,a5,bg,h⟩
 rcases g with _|g
 cases h
 obtain⟨ds,h,be⟩:=BI h;unfold cP at h
 refine Jq<|Jl3 1 R<|Js3 R U27 R R<|Jb 1 R ?_
 revert h
 cases dl:decide (0<(k.1.length:Int))
 refine JF λh=>Jy R<|Jc1<|Jt<|Jt ?_
 cases h
 have h:=be
 refine Jb1 ?_
 cases h
 exact Jw1 _ ⟨ab,(k.1,k.2.1,k.2.2),S,I,R,u.wk R,T,a4,bf,a5,bg,R⟩<|KM R
 refine JT λh=>Jx R<|Js<|Jp<|Jv<|Jl3 1 R<|Ob h λdN bj h=>Jd3 R T.rdc bj U27 Z2<|Jc3 R I2 (T.rdc.gInt bj)<|Jb 1 R<|Jl3 1 R<|Ob h λc5 bk h=>Jf R (jE (k1:= .i64) (k2:= .i64) U27 Z2 (.inr ⟨_,R,R⟩) (.inl ⟨R,R⟩) bk T.rdc.1 R R R)<|Jb 1 R<|Jl3 1 R<|Jf R (bh R R)<|Je3 R U218 R Z28 ?_
 have a6:=cw.stp (T5 t v p q u)
 refine Jc3 R I28 (a6.ld 3 R R)<|Jn 1 R<|Ob h λbK bl h=>Jd3 R bb bl U28 Z27 ?_
 obtain⟨dd,dt,ay,cE⟩:=(bb.stp (T5 t v p q u)).gSl bl
 refine Jc3 R I27 cE<|Js3 R U27 R R<|Jb 1 R ?_
 have al:=ay.len_le
 refine Ob h λbD cQ cA=>?_
 clear h
 refine Jt3 [0,1,2,9,10] (λc i a=>∃b,∃n:VI×VB×VI,∃af ag,i=(11,.slice af n.1.length ag)::c/\Stp [2,3,6] ab bJ b a/\Oc E6 2 b a 6 af ag n.1/\Oc zo 4 b a 2 P Q n.2.1/\F.length=n.2.1.length/\Oc E6 3 b a 3 y x n.2.2/\o.length=n.2.2.length/\bD=zw n) ?_ ?_
 refine Jv<|Ju3 [0,1,2,9,10,39,40] (λg c i a=>∃b f,∃e:VI×VB×VI,∃L K,i=(11,.slice L e.1.length K)::(41,vi f)::c/\Stp [2,3,6] ab bJ b a/\Oc E6 2 b a 6 L K e.1/\Oc zo 4 b a 2 P Q e.2.1/\F.length=e.2.1.length/\Oc E6 3 b a 3 y x e.2.2/\o.length=e.2.2.length/\0<=f/\zq ((bK.length:Int)-f)=g/\cntM (cn p0 p1 p2 bK) g f e=some bD) ⟨_,_,⟨ab,0,(c5,k.2.1,k.2.2),(subA S I (1:Int).toNat 1),(I-(1:Int).toNat),R,Jo3,(T.sub bk),a4,bf,a5,bg,(by decide),(by simp),cQ⟩,(KM R)⟩ ?_
 rintro g _ c1 ⟨aN,f,e,L,K,rfl,m,U,s,A,V,N,am,bc,h⟩
 rcases g with _|g
 have C:=h;obtain⟨cY,h⟩:=exq C
 have j:=dcf bc
 refine Jf3 R<|Jq<|Jx2 R j<|Jc1<|Jt<|Jt ?_
 cases h
 have h:=C
 refine Jb1 ?_
 cases h
 exact Jw1 _ ⟨aN,(e.1,e.2.1,e.2.2),L,K,R,m.wk R,U,s,A,V,N,R⟩<|KM R
 obtain⟨cY,h,C⟩:=BI h;unfold cn at h
 have j:=dct bc
 refine Jf3 R<|Jq<|Jw2 R j<|Js<|Jp<|Jq<|Jv<|Jj3<|Ob h λaK bm h=>Jd3 R ay bm U27 Z2<|Jc3 R I2 ((ay.stp m).gInt bm)<|Jb 1 R<|Jq<|Jl3 2 R<|Ob h λc6 bp h=>Jf R (Jg2 s.rdc bp U71 Z4 R R A R)<|Jc3 R I4 (s.rdc.gBool bp)<|Jn 1 R<|Ob h λbB h cB=>Jk4 [0,1,2,9,10,11,14,39,40,41] 55 bB aN c1 6 tv ?_ ?_
 revert h
 cases dm:c6
 refine JF λh=>Jn 2 R<|Ob h λdO bq h=>Jd3 R aj bq U71 Z4<|Jc3 R I4 ((aj.stp<|T6 t v p q u m).gBool bq)<|Jn 2 R ?_
 cases h
 exact Jl4 tv R
 refine JT λh=>Jn 3 R<|Je4 R<|Jn 2 R ?_
 cases h
 exact Jl4 tv R
 rintro _ aI _ ⟨rfl,B,d⟩
 have h:=cB
 refine Jd ?_
 revert h
 cases dn:bB
 refine JF λh=>Jy R<|Js<|Jp<|Jq<|Jl3 1 R<|Jf R (bh R R)<|Je3 R U218 R Z32<|Je3 R U32 R Z30<|Je3 R U30 R Z27 ?_
 have a8:=a6.stp (m.tr d)
 refine Jc3 R I27 (a8.ld 0 R R)<|Jn 1 R<|Ob h λc7 br h=>Jd3 R a9 br U27 Z2<|Jc3 R I2 ((a9.stp<|T7 t v p q u m d).gInt br)<|Jb 2 R ?_
 revert h
 cases dp:(c7 !=p1)
 refine JF λh=>Jy R<|Js<|Jp<|Jl3 2 R<|Ob h λc3 aE h=>Jf R (Jg2 s.rdc aE U71 Z4 R R A R)<|Ob h λZ X h=>Jk1 (J:=B) (E:=zo) 2 [] R R R R R R R R Z4 R R R R (s.stp d) X λdF bU au ck=>Tv<|?_
 have cK:F.length=Z.length:=A.trans (Ju2 X).2.2.2.symm
 refine Jd<|Jm3 2 R<|Ji4 bU 7 [aK] R Y27 aR R λb8 ca dG bV ae cl=>Tv<|Ob h λaJ aF h=>Jd4 bV E6 6 [] R Y27 aR R (U.stp<|T3 d au ae) (zu (bo _) cl.rdc) aV aF R λaw ax dH bW av cm=>Tv<|Jc 1 R<|Jz<|Jp<|Jg3 R ?_
 have D:zr .i64 (f+1)=f+1:=wr1 am (Jn2 j) al
 rw[D]
 have j:=Jn2 j
 cases h
 exact Ja2 ⟨bW,f+1,(aJ,Z,e.2.2),aw,ax,R,(T5 m d au ae av).wk R,cm,(ck.stp<|ae.tr av),cK,(V.stp<|T4 d au ae av),N,by omega,by omega,C⟩ R
 refine JT λh=>Jx R<|Jq<|Jl3 2 R<|Ob h λc8 bs h=>Jf R (Jg2 V.rdc bs U304 Z3 R R N R) ?_
 have az:=V.stp d
 refine Jc3 R I3 (az.rdc.gInt bs)<|Jb 1 R<|Ob h λbE h cC=>Jt3 [0,1,2,9,10,11,14,39,40,41] (λc i a=>∃b,i=c/\Stp [3] B aI b a/\Oc E6 3 b a 3 y x bE/\o.length=bE.length) ?_ ?_
 revert h
 cases dq:(c8==0)
 refine JF λh=>Jy R<|Js ?_
 cases h
 exact Jw1 _ ⟨B,R,Jo3,az,N⟩<|KM R
 refine JT λh=>Jx R<|Jl3 1 R<|Jf R (bh R R)<|Je3 R U218 R Z32<|Je3 R U32 R Z30<|Je3 R U30 R Z28<|Jc3 R I28 (a8.ld 1 R R)<|Jn 1 R<|Ob h λbL bt h=>Jd3 R ba bt U28 Z27 ?_
 obtain⟨de,du,aA,cF⟩:=(ba.stp (T7 t v p q u m d)).gSl bt
 refine Jc3 R I27 cF<|Js3 R U27 R R<|Jb 1 R<|Ob h λbF cR cD=>?_
 clear h
 refine Jt3 [0,1,2,9,10,11,14,39,40,41] (λc i a=>∃b,∃ao:VI,i=c/\Stp [3] B aI b a/\Oc E6 3 b a 3 y x ao/\o.length=ao.length/\bF=zw ao) ?_ ?_
 refine Jv<|Ju3 [0,1,2,9,10,11,14,39,40,41,80,81] (λg c i a=>∃b O,∃Y:VI,i=(82,vi O)::c/\Stp [3] B aI b a/\Oc E6 3 b a 3 y x Y/\o.length=Y.length/\0<=O/\zq ((bL.length:Int)-O)=g/\cntM (bO p2 aK bL) g O Y=some bF) ⟨_,_,⟨B,0,e.2.2,R,Jo3,az,N,(by decide),(by simp),cR⟩,(KM R)⟩ ?_
 rintro g _ c0 ⟨aa,O,Y,rfl,ac,M,W,bd,ak,h⟩
 rcases g with _|g
 have an:=h;obtain⟨cZ,h⟩:=exq an
 have aB:=dcf ak
 refine Jf3 R<|Jq<|Jx2 R aB<|Jc1<|Jt<|Jt ?_
 cases h
 have h:=an
 refine Jb1 ?_
 cases h
 exact Jw1 _ ⟨aa,Y,R,ac.wk R,M,W,R⟩<|KM R
 obtain⟨cZ,h,an⟩:=BI h;unfold bO at h
 have aB:=dct ak
 refine Jf3 R<|Jq<|Jw2 R aB<|Js<|Jp<|Jq<|Jv<|Jj3<|Ob h λdP bu h=>Jd3 R aA bu U27 Z2<|Jc3 R I2 ((aA.stp ac).gInt bu)<|Jb 1 R<|Jl3 2 R<|Ob h λc9 bv h=>Jd3 R aj bv U71 Z4<|Jc3 R I4 ((aj.stp<|T8 t v p q u m d ac).gBool bv)<|Jd<|Ob h λaH h cy=>Jt3 [0,1,2,9,10,11,14,39,40,41,80,81,82] (λc i a=>∃b,i=c/\Stp [3] aa c0 b a/\Oc E6 3 b a 3 y x aH/\o.length=aH.length) ?_ ?_
 revert h
 cases dj:c9
 refine JF λh=>Jy R<|Js ?_
 cases h
 exact Jw1 _ ⟨aa,R,Jo3,M,W⟩<|KM R
 refine JT λh=>Jx R<|Jm3 2 R<|Ob h λdQ bw h=>Jf R (Jg2 M.rdc bw U304 Z3 R R W R)<|Jc3 R I3 (M.rdc.gInt bw)<|Jn 1 R<|Ob h λdR cW h=>Jf R (Jg2 M.rdc cW U304 Z3 R R W R)<|Ob h λda bz h=>Jk1 (J:=aa) (E:=E6) 3 [] R R R R R R R R Z3 R R R R M bz λdA bQ b5 cf=>Tv<|?_
 have cI:o.length=da.length:=W.trans (Ju2 bz).2.2.2.symm
 refine Jo ?_
 cases h
 exact Jw1 _ ⟨bQ,R,b5.wk R,cf,cI⟩<|KM R
 rintro _ dz ⟨bP,rfl,b4,ce,cH⟩
 have h:=cy
 refine Jz<|Jp<|Jg3 R<|wr2 bd ak aA.len_le ▸ ?_
 cases h
 exact Ja2 ⟨bP,O+1,aH,R,(ac.tr b4).wk R,ce,cH,nxz bd,nxm ak,an⟩ R
 rintro _ dy ⟨bM,ao,rfl,b3,cd,cG,rfl⟩
 have h:=yI cD
 cases h
 exact Jw1 _ ⟨bM,R,b3.wk R,cd,cG⟩<|KM R
 rintro _ dL ⟨b2,rfl,H,ai,aD⟩
 have h:=cC
 refine Jp<|Jl3 2 R<|Ob h λdS bx h=>Jf R (Jg2 ai.rdc bx U304 Z3 R R aD R)<|Jc3 R I3 (ai.rdc.gInt bx)<|Jn 1 R<|Ob h λdM cS h=>Jf R (Jg2 ai.rdc cS U304 Z3 R R aD R)<|Ob h λaL bA h=>Jk1 (J:=b2) (E:=E6) 3 [] R R R R R R R R Z3 R R R R ai bA λdB aM G ah=>Tv<|?_
 have aC:o.length=aL.length:=aD.trans (Ju2 bA).2.2.2.symm
 refine Jd<|Jl3 2 R<|Ob h λc2 bi h=>Jf R (Jg2 ah.rdc bi U304 Z3 R R aC R)<|Jc3 R I3 (ah.rdc.gInt bi)<|Jb 1 R ?_
 revert h
 cases dk:decide (0<c2)
 refine JF λh=>Jy R<|Js<|Jp<|Jl3 2 R<|Ob h λc3 aE h=>Jf R (Jg2 s.rdc aE U71 Z4 R R A R)<|Ob h λZ X h=>Jk1 (J:=aM) (E:=zo) 2 [] R R R R R R R R Z4 R R R R (s.stp<|T3 d H G) X λdC bR aq ch=>Tv<|?_
 have cJ:F.length=Z.length:=A.trans (Ju2 X).2.2.2.symm
 refine Jd<|Jm3 2 R<|Ji4 bR 7 [aK] R Y27 aR R λb8 ca dD bS ad ci=>Tv<|Ob h λaJ aF h=>Jd4 bS E6 6 [] R Y27 aR R (U.stp<|T5 d H G aq ad) (zu (bo _) ci.rdc) aV aF R λaw ax dE bT ar cj=>Tv<|Jc 1 R<|Jz<|Jp<|Jg3 R ?_
 have D:zr .i64 (f+1)=f+1:=wr1 am (Jn2 j) al
 rw[D]
 have j:=Jn2 j
 cases h
 exact Ja2 ⟨bT,f+1,(aJ,Z,aL),aw,ax,R,(T7 m d H G aq ad ar).wk R,cj,(ch.stp<|ad.tr ar),cJ,(ah.stp<|T3 aq ad ar),aC,by omega,by omega,C⟩ R
 refine JT λh=>Jx R<|Jc1<|Jt<|Jb1<|Jp<|Jg3 R ?_
 have D:zr .i64 (f+1)=f+1:=wr1 am (Jn2 j) al
 rw[D]
 have j:=Jn2 j
 cases h
 exact Ja2 ⟨aM,f+1,(e.1,e.2.1,aL),L,K,R,(T4 m d H G).wk R,(U.stp<|T3 d H G),(s.stp<|T3 d H G),A,ah,aC,by omega,by omega,C⟩ R
 refine JT λh=>Jx R<|Jc1<|Jt<|Jb1<|Jp<|Jg3 R ?_
 have D:zr .i64 (f+1)=f+1:=wr1 am (Jn2 j) al
 rw[D]
 have j:=Jn2 j
 cases h
 exact Ja2 ⟨B,f+1,(e.1,e.2.1,e.2.2),L,K,R,(m.tr d).wk R,(U.stp d),(s.stp d),A,(V.stp d),N,by omega,by omega,C⟩ R
 rintro _ dJ ⟨b0,n,af,ag,rfl,b7,cr,cs,cM,ct,cN,rfl⟩
 have h:=yI cA
 refine Jz ?_
 cases h
 exact Ja2 ⟨b0,(n.1,n.2.1,n.2.2),af,ag,R,(u.tr b7).wk R,cr,cs,cM,ct,cN,be⟩ R
 rintro _ dI ⟨bY,E,a2,aQ,rfl,b6,df,cp,cL,dg,di,rfl⟩
 have h:=yI cz
 refine Jp<|Jf3 R<|Ju<|Jb2 (l:=[.tmp 8]) results223 (Jq2 R R) R ?_
 cases h
 exact⟨bY,P,Q,(by simp only[cL]),(cx.stp<|T5 t v p q b6),cp⟩
theorem dl {a b}{p0:VB}{p1:Bool}(f:Rd Rp.bool J w 0 a b p0){r:Bool}(h:bz p0 p1=some r):Ret prog 224 [.slice a p0.length b,.bool p1] w (Pvb J w r):=by
 unfold bz at h
 refine Jp3 J func224 R ntmps224 R λg=>Jf3 R<|Jl3 2 R<|Ob h λn i h=>Jw3 R call160 (iZ (J:=Mk J) (Jn3 f) i) ?_
 rintro _ m ⟨j,rfl,e⟩
 obtain⟨c,d,k⟩:=Ji e 2 R
 refine Tv<|Jb 2 R<|Ju<|Jb2 (l:=[.tmp 4]) results224 (Jq2 R R) R ?_
 cases h
 exact⟨c,R,(g.stp d)⟩
theorem oa {t u o p}{p0:Arena}(O:Rd Ri J w 0 t u p0.Owner) (P:Rd Rs J w 0 o p p0.Next){r:Arena}(h:gD p0=some r):Ret prog 186 [.agg #[.slice t p0.Owner.length u,.slice o p0.Next.length p]] w (λV i=>∃(j:Col) (x:Option Addr) (z:Nat) (y:Option Addr) (A:Nat),V= .agg #[.slice x r.Owner.length z,.slice y r.Next.length A]/\Ent J w j i/\Oc E6 2 j i 2 x z r.Owner/\Oc (Ep.own E6 2) 27 j i 3 y A r.Next):=by
 unfold gD at h
 refine Jp3 J func186 R ntmps186 R λQ=>Jj3<|Jx3 J 2 R λZ ad E g M=>Tv<|Jy3 E 3 R X30 R λaa aj m f N=>Tv<|Jd<|Jq<|Js1 (J:=m) [2] none [(1,2),(4,2),(2,0),(5,0),(0,1),(3,1),(6,1),(7,2),(8,1)] [] (by kernel_rfl) (by kernel_rfl) λae d=>Je3 R U30 R Z27<|Je3 R U30 R Z28 ?_
 have v:=M.stp (f.tr d)
 refine Jg R (Jd2 I27 R R<|hvC (v.ld 0 R R) R)<|Jg R (Jd2 I28 R R<|hvC (v.ld 1 R R) R)<|Jc4 m E6 4 R Y27 aR R λY ac af C a H=>⟨(a.cl R),Ob h λW S h=>Jd4 C E6 4 [] R Y27 aR R H (zu (bo _)<|O.stp<|T4 g f d a) aV S R λn B ag D b I=>⟨((a.tr b).cl R),Ob h λX T h=>Jw3 R call220 (ob (J:=Mk D) (Jn3<|P.stp<|T5 g f d a b) T) ?_⟩⟩
 rintro _ ah ⟨ab,s,q,rfl,G,K⟩
 obtain⟨k,c,U⟩:=Ji G 5 R
 refine⟨((T3 a b c).cl R),Jf R (Jn4 [.slice n W.length B,.slice s X.length q] R)<|Jm4 k 3 R Z30 R (N.stp<|T4 d a b c) R λai e L=>⟨((T4 a b c e).cl R),Jt1<|Jd<|Ju<|Jb2 (l:=[.cell 2 30]) results186 (bv R L I30 Z30 R R) R ?_⟩⟩
 cases h
 exact⟨(λF=>ren [(4,2),(7,3)]<|k F),n,B,s,q,R,((Q.stp<|T7 g f d a b c e).map (ren [(4,2),(7,3)]) R R),((I.stp<|c.tr e).map (ren [(4,2),(7,3)]) R R),(((K.mx (ie (aT _) _) U R (R:5+2=7)).stp e).map (ren [(4,2),(7,3)]) R R)⟩
theorem pZ {C B E G D F}{p0:Parity}{A O}{p1:VI}(aI:Rd Ri J w 0 C B p0.Arena.Owner) (aJ:Rd Rs J w 0 E G p0.Arena.Next) (I:Rd Ri J w 0 D F p0.Prio) (v:Rd Ri J w 0 A O p1){r:VI}(h:jx p0 p1=some r):Ret prog 271 [.agg #[.slice C p0.Arena.Owner.length B,.slice E p0.Arena.Next.length G,.slice D p0.Prio.length F],.slice A p1.length O] w (Pvs E6 2 J w r):=by
 unfold jx at h
 refine Jp3 J func271 R ntmps271 R λaq=>Jj3<|Jx3 J 2 R λaH aM T s an=>Tv<|Jb 1 R<|Jj3<|Jc4 T E6 3 R Y27 aR R λac aC P p i ap=>Tv<|Jb 1 R<|Jq<|Jl3 1 R<|Js3 R U27 R R<|Jb 1 R<|Ob h λN av ar=>?_
 clear h
 refine Jx1 (λq f=>∃g,∃o:VI,∃u t,q=[(5,.slice u o.length t)]/\Stp [3] p P g f/\Oc E6 2 g f 3 u t o/\N=zw o) ?_ ?_
 refine Jv<|Ju3 [2,9,10] (λd Q q f=>∃g a,∃e:VI,∃k j,q=(5,.slice k e.length j)::(11,vi a)::Q/\Stp [3] p P g f/\Oc E6 2 g f 3 k j e/\0<=a/\zq ((p1.length:Int)-a)=d/\cntM (fH p0 p1) d a e=some N) ⟨_,_,⟨p,0,([]:VI),ac,aC,R,Jo3,ap,(by decide),(by simp),av⟩,(KM R)⟩ ?_
 rintro d _ aO ⟨y,a,e,k,j,rfl,b,H,K,m,h⟩
 rcases d with _|d
 have n:=h;obtain⟨aB,h⟩:=exq n
 have x:=dcf m
 refine Jf3 R<|Jq<|Jx2 R x<|Jc1<|Jt<|Jt ?_
 cases h
 have h:=n
 refine Jb1 ?_
 cases h
 exact Jw1 _ ⟨y,e,k,j,R,b.wk R,H,R⟩<|KM R
 obtain⟨aB,h,n⟩:=BI h;unfold fH at h
 have x:=dct m
 refine Jf3 R<|Jq<|Jw2 R x<|Js<|Jp<|Jq<|Jv<|Jj3<|Ob h λaW L h=>Jd3 R v L U27 Z2<|Jc3 R I2 ((v.stp<|T3 s i b).gInt L)<|Jb 1 R<|Jm3 1 R<|Je3 R U32 R Z27<|Jc3 R I27 ((an.stp<|i.tr b).ld 2 R R)<|Jn 1 R<|Ob h λaD M h=>Jd3 R I M U27 Z2<|Jc3 R I2 ((I.stp<|T3 s i b).gInt M)<|Ji4 y 4 [aD] R Y27 aR R λaG aF aP U z ak=>Tv<|Ob h λaE aw h=>Jd4 U E6 3 [] R Y27 aR R (H.stp z) (zu (bo _) ak.rdc) aV aw R λag af aQ V Z al=>Tv<|Jc 1 R<|Jz<|Jp<|Jg3 R<|wr2 K m v.len_le ▸ ?_
 cases h
 exact Ja2 ⟨V,a+1,aE,ag,af,R,(T3 b z Z).wk R,al,nxz K,nxm m,n⟩ R
 rintro _ aN ⟨S,o,u,t,rfl,Y,aj,rfl⟩
 have h:=yI ar
 refine Jp<|Jl3 1 R<|Ob h λaX ax h=>Jw3 R call161 (fZ (J:=λc=>mp [(3,2)] 0<|S c) (aj.map (mp [(3,2)] 0) R R) ax) ?_
 rintro _ aS ⟨aK,rfl,ah,am,au⟩
 obtain⟨W,aa,az⟩:=Ji ah 4 R
 refine Tv<|Jd<|Jl3 1 R<|Ob h λaY ay h=>Jw3 R call162 (Ret.cast (by simp only[(au),List.cons_append,List.nil_append])<|iY (J:=λc=>mp [(6,2)] 0<|W c) ((am.mx (aT _) az R (R:4+2=6)).map (mp [(6,2)] 0) R R) ay) ?_
 rintro _ aU ⟨aL,ad,ae,rfl,ai,ao⟩
 obtain⟨X,ab,aA⟩:=Ji ai 7 R
 refine Tv<|Jb 1 R<|Ju<|Jb2 (l:=[.tmp 4]) results271 (Jq2 R R) R ?_
 cases h
 exact⟨(λc=>ren [(9,2)]<|X c),ad,ae,R,((aq.stp<|T5 s i Y aa ab).map (ren [(9,2)]) R R),((ao.mx (aT _) aA R (R:7+2=9)).map (ren [(9,2)]) R R)⟩
theorem kh {p0:Int}{p1:Int}  {r:Int}(h:cC p0 p1=some r):Ret prog 270 [vi p0,vi p1] w (Pvi J w r):=by
 unfold cC at h
 refine Jp3 J func270 R ntmps270 R λd=>Jf3 R<|Jl3 1 R<|Ob h λm k h=>Jw3 R call261 (cX (J:=Mk J) k) ?_
 rintro _ y ⟨t,rfl,i⟩
 obtain⟨f,c,x⟩:=Ji i 2 R
 refine Tv<|Jb 1 R<|Jl3 1 R<|Ob h λe j h=>Jw3 R call261 (cX (J:=Mk f) j) ?_
 rintro _ z ⟨u,rfl,g⟩
 obtain⟨a,b,v⟩:=Ji g 4 R
 refine Tv<|Jb 1 R<|Jq<|Jf3 R ?_
 revert h
 cases n:m
 refine JF λh=>Jy R<|Js<|Jp<|Jq<|Jf3 R ?_
 revert h
 cases p:e
 refine JF λh=>Jy R<|Js<|Jp<|Jq<|Jf3 R ?_
 revert h
 cases q:decide (p0<p1)
 refine JF λh=>Jy R<|Js<|Jp<|Jq<|Jf3 R ?_
 revert h
 cases s:decide (p1<p0)
 refine JF λh=>Jy R<|Js<|Jp<|Jf3 R<|Ju<|Jb2 (l:=[.tmp 4]) V270 (Jq2 R R) R ?_
 cases h
 exact⟨a,R,(d.stp<|c.tr b)⟩
 refine JT λh=>Jx R<|Jf3 R<|Ju<|Jw<|Jb2 (l:=[.tmp 4]) V270 (Jq2 R R) R ?_
 cases h
 exact⟨a,R,(d.stp<|c.tr b)⟩
 refine JT λh=>Jx R<|Jf3 R<|Ju<|Jw<|Jb2 (l:=[.tmp 4]) V270 (Jq2 R R) R ?_
 cases h
 exact⟨a,R,(d.stp<|c.tr b)⟩
 refine JT λh=>Jx R<|Jf3 R<|Ju<|Jw<|Jb2 (l:=[.tmp 4]) V270 (Jq2 R R) R ?_
 cases h
 exact⟨a,R,(d.stp<|c.tr b)⟩
 refine JT λh=>Jx R<|Jq<|Jf3 R ?_
 revert h
 cases o:e
 refine JF λh=>Jy R<|Js<|Jp<|Jf3 R<|Ju<|Jw<|Jb2 (l:=[.tmp 4]) V270 (Jq2 R R) R ?_
 cases h
 exact⟨a,R,(d.stp<|c.tr b)⟩
 refine JT λh=>Jx R<|Jf3 R<|Ju<|Jw<|Jw<|Jb2 (l:=[.tmp 4]) V270 (Jq2 R R) R ?_
 cases h
 exact⟨a,R,(d.stp<|c.tr b)⟩
theorem p6 {aS aP aQ aT}{p0:Arena}{p1:Int}{aN bj}{p2:VI}{aO bk}{C:VI}(b7:Rd Ri J w 0 aS aP p0.Owner) (b8:Rd Rs J w 0 aQ aT p0.Next) (b9:Rd Ri J w 0 aN bj p2) (aw:Rd Ri J w 0 aO bk C){r:VI}(h:jy p0 p1 p2 C=some r):Ret prog 294 [.agg #[.slice aS p0.Owner.length aP,.slice aQ p0.Next.length aT],vi p1,.slice aN p2.length bj,.slice aO C.length bk] w (Pvs E6 2 J w r):=by
 unfold jy at h
 refine Jp3 J func294 R ntmps294 R λca=>Jj3<|Jx3 J 2 R λcV c4 bA x aX=>Tv<|Jb 1 R<|Jj3<|Jg4 tv R (Jh4 (haE aX.cells) I30 Z30 R)<|Jn 1 R<|Ob h λaF cv h=>?_
 have aY:=b7.stp x
 have aZ:=b8.stp x
 have U:=b9.stp x
 refine Jw3 R call189 (gN (J:=Mk bA) (p0:=p0) (Jn3 aY) (Jn3 aZ) (Jn3 U) cv) ?_
 rintro _ dh ⟨c1,cR,cT,rfl,bS,bV⟩
 obtain⟨bv,v,cC⟩:=Ji bS 3 R
 refine Tv<|?_
 have aq:=bV.mx bU cC R (R:3+2=5)
 refine Jb 1 R<|Jj3<|Je3 R U30 R Z27 ?_
 have aU:=aX.stp v
 refine Jc3 R I27 (aU.ld 0 R R)<|Js3 R U27 R R<|Ob h λf cw h=>Jl1 (J:=bv) (E:=E6) (z:=(0:Int)) 6 R R R R R R R Y27 aR R R R R R (λ_ _ _=>R) (Jv2 cw) λi g bl ah n aW=>Tv<|Jb 1 R<|Jq<|Jl3 1 R<|Js3 R U27 R R<|Jb 1 R<|Ob h λbh cr cd=>?_
 clear h
 refine Jt3 [1,2,3,4,9,10] (λd e a=>∃b,∃H:VI,e=d/\Stp [6] ah bl b a/\Oc E6 2 b a 6 i g H/\f.length=H.length/\bh=zw H) ?_ ?_
 refine Jv<|Ju3 [1,2,3,4,9,10,28] (λc d e a=>∃b q,∃D:VI,e=(29,vi q)::d/\Stp [6] ah bl b a/\Oc E6 2 b a 6 i g D/\f.length=D.length/\0<=q/\zq ((f.length:Int)-q)=c/\cntM im c q D=some bh) ⟨_,_,⟨ah,0,f,R,Jo3,aW,R,(by decide),(by simp),cr⟩,(KM R)⟩ ?_
 rintro c _ dc ⟨aH,q,D,rfl,aM,ar,aC,a2,X,h⟩
 rcases c with _|c
 have ab:=h;obtain⟨cE,h⟩:=exq ab
 have ay:=dcf X
 refine Jf3 R<|Jq<|Jx2 R ay<|Jc1<|Jt<|Jt ?_
 cases h
 have h:=ab
 refine Jb1 ?_
 cases h
 exact Jw1 _ ⟨aH,D,R,aM.wk R,ar,aC,R⟩<|KM R
 obtain⟨cE,h,ab⟩:=BI h;unfold im at h
 have ay:=dct X
 refine Jf3 R<|Jq<|Jw2 R ay<|Js<|Jp<|Jq<|Jv<|Jf3 R<|Jm3 2 R<|Ob h λdi cx h=>Jf R (Jg2 ar.rdc cx U27 Z2 R R aC R)<|Ob h λbr bb h=>Jk1 (J:=aH) (E:=E6) 6 [] R R R R R R R R Z2 R R R R ar bb λdd bB bK b2=>Tv<|?_
 have cm:f.length=br.length:=aC.trans (Ju2 bb).2.2.2.symm
 refine Jo<|Jz<|Jp<|Jg3 R<|wr2 a2 X aW.len_le ▸ ?_
 cases h
 exact Ja2 ⟨bB,q+1,br,R,(aM.tr bK).wk R,b2,cm,nxz a2,nxm X,ab⟩ R
 rintro _ bm ⟨ai,H,rfl,o,b1,cl,rfl⟩
 have h:=yI cd
 refine Jp<|Jq<|Jl3 1 R<|Js3 R U27 R R<|Jb 1 R<|Ob h λbi cs ce=>?_
 clear h
 refine Jt3 [1,2,4,9,10] (λd e a=>∃b,∃K:VI,e=d/\Stp [6] ai bm b a/\Oc E6 2 b a 6 i g K/\f.length=K.length/\bi=zw K) ?_ ?_
 refine Jv<|Ju3 [1,2,4,9,10,36,37] (λc d e a=>∃b s,∃I:VI,e=(38,vi s)::d/\Stp [6] ai bm b a/\Oc E6 2 b a 6 i g I/\f.length=I.length/\0<=s/\zq ((C.length:Int)-s)=c/\cntM (fI C aF) c s I=some bi) ⟨_,_,⟨ai,0,H,R,Jo3,b1,cl,(by decide),(by simp),cs⟩,(KM R)⟩ ?_
 rintro c _ cK ⟨L,s,I,rfl,O,T,ae,a3,Y,h⟩
 rcases c with _|c
 have ac:=h;obtain⟨cF,h⟩:=exq ac
 have az:=dcf Y
 refine Jf3 R<|Jq<|Jx2 R az<|Jc1<|Jt<|Jt ?_
 cases h
 have h:=ac
 refine Jb1 ?_
 cases h
 exact Jw1 _ ⟨L,I,R,O.wk R,T,ae,R⟩<|KM R
 obtain⟨cF,h,ac⟩:=BI h;unfold fI at h
 have az:=dct Y
 refine Jf3 R<|Jq<|Jw2 R az<|Js<|Jp<|Jq<|Jv<|Jj3<|Ob h λdj a6 h=>Jd3 R aw a6 U27 Z2<|Jc3 R I2 ((aw.stp<|T5 x v n o O).gInt a6)<|Jb 1 R<|Jl3 2 R<|Ob h λcM a7 h=>Jd3 R aq.rdc a7 U71 Z4<|Jc3 R I4 ((aq.stp<|T3 n o O).rdc.gBool a7)<|Jd<|Ob h λaE h cf=>Jt3 [1,2,4,9,10,36,37,38] (λd e a=>∃b,e=d/\Stp [6] L cK b a/\Oc E6 2 b a 6 i g aE/\f.length=aE.length) ?_ ?_
 revert h
 cases cY:cM
 refine JF λh=>Jy R<|Js ?_
 cases h
 exact Jw1 _ ⟨L,R,Jo3,T,ae⟩<|KM R
 refine JT λh=>Jx R<|Jm3 2 R<|Ob h λdk cy h=>Jf R (Jg2 T.rdc cy U27 Z2 R R ae R)<|Ob h λcP bc h=>Jk1 (J:=L) (E:=E6) 6 [] R R R R R R R R Z2 R R R R T bc λdf bD bM b5=>Tv<|?_
 have cp:f.length=cP.length:=ae.trans (Ju2 bc).2.2.2.symm
 refine Jo ?_
 cases h
 exact Jw1 _ ⟨bD,R,bM.wk R,b5,cp⟩<|KM R
 rintro _ de ⟨bC,rfl,bL,b4,co⟩
 have h:=cf
 refine Jz<|Jp<|Jg3 R<|wr2 a3 Y aw.len_le ▸ ?_
 cases h
 exact Ja2 ⟨bC,s+1,aE,R,(O.tr bL).wk R,b4,co,nxz a3,nxm Y,ac⟩ R
 rintro _ cJ ⟨aI,K,rfl,N,b3,cn,rfl⟩
 have h:=yI ce
 refine Jp<|Jf3 R<|Ob h λcH ct cg=>?_
 clear h
 refine Jv<|Ju3 [1,2,4,9,10] (λc d e a=>∃b,∃j:Int×VI,e=(14,vi j.1)::d/\Stp [6,7] aI cJ b a/\Oc E6 2 b a 6 i g j.2/\f.length=j.2.length/\bn (fJ p0 p1 p2 aF) c j=some cH) ⟨_,_,⟨aI,((0:Int),K),R,Jo3,b3,cn,ct⟩,(KM R)⟩ ?_
 rintro c _ dg ⟨bE,j,rfl,y,V,af,h⟩
 rcases c with _|c
 cases h
 obtain⟨c3,h,a5⟩:=BI h;unfold fJ at h
 refine Jq<|Jv<|Jj3<|Jc4 bE E6 7 R Y27 aR R λbN bQ bp aj k b6=>Tv<|Jb 1 R<|Jq<|Jl3 1 R<|Js3 R U27 R R<|Jb 1 R<|Ob h λbf cu ch=>?_
 clear h
 refine Jt3 [1,2,4,9,10,14] (λd e a=>∃b,∃m:VI,∃an ao,e=(15,.slice an m.length ao)::d/\Stp [7] aj bp b a/\Oc E6 2 b a 7 an ao m/\bf=zw m) ?_ ?_
 refine Jv<|Ju3 [1,2,4,9,10,14,53,54] (λc d e a=>∃b t,∃E:VI,∃B A,e=(15,.slice B E.length A)::(55,vi t)::d/\Stp [7] aj bp b a/\Oc E6 2 b a 7 B A E/\0<=t/\zq ((p2.length:Int)-t)=c/\cntM (ea p0 p1 p2 aF j) c t E=some bf) ⟨_,_,⟨aj,0,([]:VI),bN,bQ,R,Jo3,b6,(by decide),(by simp),cu⟩,(KM R)⟩ ?_
 rintro c _ cL ⟨ak,t,E,B,A,rfl,p,av,a4,Z,h⟩
 rcases c with _|c
 have ad:=h;obtain⟨cG,h⟩:=exq ad
 have aA:=dcf Z
 refine Jf3 R<|Jq<|Jx2 R aA<|Jc1<|Jt<|Jt ?_
 cases h
 have h:=ad
 refine Jb1 ?_
 cases h
 exact Jw1 _ ⟨ak,E,B,A,R,p.wk R,av,R⟩<|KM R
 obtain⟨cG,h,ad⟩:=BI h;unfold ea at h
 have aA:=dct Z
 refine Jf3 R<|Jq<|Jw2 R aA<|Js<|Jp<|Jq<|Jv<|Jj3<|Ob h λcN a8 h=>Jd3 R U a8 U27 Z2<|Jc3 R I2 ((U.stp<|T7 v n o N y k p).gInt a8)<|Jb 1 R<|Jl3 2 R<|Ob h λcO a9 h=>Jf R (Jg2 V.rdc a9 U27 Z2 R R af R) ?_
 have a0:=V.stp (k.tr p)
 refine Jc3 R I2 (a0.rdc.gInt a9)<|Jn 2 R<|Ob h λbe h ci=>Jk4 [1,2,4,9,10,14,15,17,53,54,55] 71 be ak cL 7 tv ?_ ?_
 revert h
 cases cZ:decide (cO<0)
 refine JF λh=>Je4 R<|Jn 4 R<|Je4 R<|Jn 1 R ?_
 cases h
 exact Jl4 tv R
 have aJ:=(T7 v n o N y k p)
 have aK:=(T6 n o N y k p)
 refine JT λh=>Jg4 tv R (Jh4 (haE (aU.stp aK).cells) I30 Z30 R)<|Jn 4 R<|Ob h λdl cz h=>Jw3 R call298 (Ret.cast (by simp only[af,List.cons_append,List.nil_append])<|pg (J:=Mk ak) (p0:=p0) (Jn3<|aY.stp aJ) (Jn3<|aZ.stp aJ) (Jn3 (aq.stp aK).rdc) (Jn3 a0.rdc) cz) ?_
 rintro _ c5 ⟨c0,rfl,bT⟩
 obtain⟨cQ,bF,c2⟩:=Ji bT 8 R
 refine Tv<|Jn 1 R ?_
 cases h
 exact Jv1 _ tv ⟨R,_,bF.wk R⟩<|KM R
 rintro _ cI _ ⟨rfl,ag,al⟩
 have h:=ci
 refine Jd<|Ob h λaD h cb=>Jt3 [1,2,4,9,10,14,53,54,55] (λd e a=>∃b Q S,e=(15,.slice Q aD.length S)::d/\Stp [7] ag cI b a/\Oc E6 2 b a 7 Q S aD) ?_ ?_
 revert h
 cases cW:be
 refine JF λh=>Jy R<|Js ?_
 cases h
 exact Jw1 _ ⟨ag,B,A,R,Jo3,(av.stp al)⟩<|KM R
 refine JT λh=>Jx R<|Jm3 2 R<|Ji4 ag 8 [cN] R Y27 aR R λcU cS c7 bu aL bX=>Tv<|Ob h λdm cA h=>Jd4 bu E6 7 [] R Y27 aR R (av.stp<|al.tr aL) (zu (bo _) bX.rdc) aV cA R λbO bP c8 bw bH bY=>Tv<|Jc 1 R ?_
 cases h
 exact Jw1 _ ⟨bw,bO,bP,R,(aL.tr bH).wk R,bY⟩<|KM R
 rintro _ c6 ⟨bt,Q,S,rfl,bG,bW⟩
 have h:=cb
 refine Jz<|Jp<|Jg3 R<|wr2 a4 Z U.len_le ▸ ?_
 cases h
 exact Ja2 ⟨bt,t+1,aD,Q,S,R,(T3 p al bG).wk R,bW,nxz a4,nxm Z,ad⟩ R
 rintro _ bq ⟨M,m,an,ao,rfl,P,au,rfl⟩
 have h:=yI ch
 refine Jp<|Jq<|Jl3 1 R<|Js3 R U27 R R<|Jb 1 R ?_
 revert h
 cases cX:((m.length:Int)==0)
 refine JF λh=>Jy R<|Js<|Jp<|Jl3 1 R<|Js3 R U27 R R<|Jb 1 R<|Ob h λbg cq cc=>?_
 clear h
 refine Jt3 [1,2,4,9,10,14] (λd e a=>∃b,∃G:VI,e=d/\Stp [6] M bq b a/\Oc E6 2 b a 6 i g G/\f.length=G.length/\bg=zw G) ?_ ?_
 refine Jv<|Ju3 [1,2,4,9,10,14,81,82] (λc d e a=>∃b u,∃F:VI,e=(83,vi u)::d/\Stp [6] M bq b a/\Oc E6 2 b a 6 i g F/\f.length=F.length/\0<=u/\zq ((m.length:Int)-u)=c/\cntM (eb j m) c u F=some bg) ⟨_,_,⟨M,0,j.2,R,Jo3,(V.stp<|k.tr P),af,(by decide),(by simp),cq⟩,(KM R)⟩ ?_
 rintro c _ da ⟨aG,u,F,rfl,am,ap,aB,a1,W,h⟩
 rcases c with _|c
 have aa:=h;obtain⟨cD,h⟩:=exq aa
 have ax:=dcf W
 refine Jf3 R<|Jq<|Jx2 R ax<|Jc1<|Jt<|Jt ?_
 cases h
 have h:=aa
 refine Jb1 ?_
 cases h
 exact Jw1 _ ⟨aG,F,R,am.wk R,ap,aB,R⟩<|KM R
 obtain⟨cD,h,aa⟩:=BI h;unfold eb at h
 have ax:=dct W
 refine Jf3 R<|Jq<|Jw2 R ax<|Js<|Jp<|Jq<|Jv<|Jj3<|Ob h λdn ba h=>Jd3 R au.rdc ba U27 Z2<|Jc3 R I2 ((au.stp am).rdc.gInt ba)<|Jb 1 R<|Jm3 4 R<|Ob h λdp cB h=>Jf R (Jg2 ap.rdc cB U27 Z2 R R aB R)<|Ob h λbs bd h=>Jk1 (J:=aG) (E:=E6) 6 [] R R R R R R R R Z2 R R R R ap bd λdb bz bJ b0=>Tv<|?_
 have ck:f.length=bs.length:=aB.trans (Ju2 bd).2.2.2.symm
 refine Jo<|Jz<|Jp<|Jg3 R<|wr2 a1 W au.len_le ▸ ?_
 cases h
 exact Ja2 ⟨bz,u+1,bs,R,(am.tr bJ).wk R,b0,ck,nxz a1,nxm W,aa⟩ R
 rintro _ c9 ⟨bx,G,rfl,bI,bZ,cj,rfl⟩
 have h:=yI cc
 refine Jz<|Jp<|Jg3 R ?_
 cases h
 exact Ja2 ⟨bx,(((zr .i64<|j.1+1):Int),G),R,(T4 y k P bI).wk R,bZ,cj,a5⟩ R
 refine JT λh=>Jx R<|Jf3 R<|Ju<|Jw<|Ja1<|Jw<|Jw ?_
 cases h
 obtain rfl:=zt a5
 have h:=yL cg
 refine Ja1<|Jb2 (l:=[.tmp 8]) results294 (Jq2 R R) R ?_
 cases h
 exact⟨(λbR=>ren [(6,2)]<|M bR),i,g,(by simp only[af]),((ca.stp<|T8 x v n o N y k P).map (ren [(6,2)]) R R),((V.stp<|k.tr P).map (ren [(6,2)]) R R)⟩
theorem lO {p0:Int}{p1:Int}  {r:Bool}(h:dF p0 p1=some r):Ret prog 221 [vi p0,vi p1] w (Pvb J w r):=by
 unfold dF at h
 refine Jp3 J func221 R ntmps221 R λm=>Jf3 R<|Jl3 1 R<|Ob h λv p h=>Jw3 R call261 (cX (J:=Mk J) p) ?_
 rintro _ t ⟨B,rfl,k⟩
 obtain⟨a,i,D⟩:=Ji k 2 R
 refine Tv<|Jn 1 R<|Ob h λb h o=>Jk4 [0,1,4] 11 b a t 4 tv ?_ ?_
 revert h
 cases z:v
 refine JF λh=>Jn 1 R<|Je4 R<|Jn 2 R ?_
 cases h
 exact Jl4 tv R
 refine JT λh=>Jn 1 R<|Ob h λG q h=>Jw3 R call261 (cX (J:=Mk a) q) ?_
 rintro _ E ⟨A,rfl,j⟩
 obtain⟨x,e,C⟩:=Ji j 4 R
 refine Tv<|Jn 2 R ?_
 cases h
 exact Jv1 _ tv ⟨R,_,e.wk R⟩<|KM R
 rintro _ u _ ⟨rfl,c,f⟩
 have h:=o
 refine Jn 1 R<|Ob h λs h n=>Jk4 [4] 16 s c u 4 tv ?_ ?_
 revert h
 cases y:b
 refine JF λh=>Jn 4 R ?_
 cases h
 exact Jl4 tv R
 refine JT λh=>Jn 4 R ?_
 cases h
 exact Jl4 tv R
 rintro _ F _ ⟨rfl,d,g⟩
 have h:=n
 refine Jb 1 R<|Ju<|Jb2 (l:=[.tmp 4]) results221 (Jq2 R R) R ?_
 cases h
 exact⟨d,R,(m.stp<|T3 i f g)⟩
theorem cv {a b}{p0:VI}{p1:Int}(f:Rd Ri J w 0 a b p0){r:Bool}(h:bs p0 p1=some r):Ret prog 134 [.slice a p0.length b,vi p1] w (Pvb J w r):=by
 unfold bs at h
 refine Jp3 J func134 R ntmps134 R λg=>Jf3 R<|Jl3 2 R<|Ob h λn i h=>Jw3 R call111 (fd (J:=Mk J) (Jn3 f) i) ?_
 rintro _ m ⟨j,rfl,e⟩
 obtain⟨c,d,k⟩:=Ji e 2 R
 refine Tv<|Jb 2 R<|Ju<|Jb2 (l:=[.tmp 4]) results134 (Jq2 R R) R ?_
 cases h
 exact⟨c,R,(g.stp d)⟩
theorem jU {ax av aB aD ay aC}{p0:Parity}{aA aE az aw}{p1:Lasso}(aM:Rd Ri J w 0 ax av p0.Arena.Owner) (aN:Rd Rs J w 0 aB aD p0.Arena.Next) (aO:Rd Ri J w 0 ay aC p0.Prio) (bI:Rd Ri J w 0 aA aE p1.Stem) (aP:Rd Ri J w 0 az aw p1.Loop){r:Worth}(h:jA p0 p1=some r):Ret prog 254 [.agg #[.slice ax p0.Arena.Owner.length av,.slice aB p0.Arena.Next.length aD,.slice ay p0.Prio.length aC],.agg #[.slice aA p1.Stem.length aE,.slice az p1.Loop.length aw]] w (λb2 a=>∃(b:Col) (a1:Option Addr) (a2:Nat),b2= .agg #[vi r.Head,.slice a1 r.Over.length a2,vi r.Way]/\Ent J w b a/\Oc E6 2 b a 2 a1 a2 r.Over):=by
 unfold jA at h
 refine Jp3 J func254 R ntmps254 R λbJ=>Jj3<|Jx3 J 2 R λcf cq bc D aJ=>Tv<|Jx3 bc 3 R λcg cC be s bG=>Tv<|Jy3 be 4 R X257 R λch cJ ba m bs=>Tv<|Jd<|Jj3<|Je3 R U296 R Z27 ?_
 have aH:=bG.stp m
 refine Jc3 R I27 (aH.ld 1 R R)<|Ob h λa5 aU h=>Jd3 R aP aU U27 Z2 ?_
 have H:=aP.stp (T3 D s m)
 refine Jc3 R I2 (H.gInt aU)<|Jf R (Jn4 [vi a5,.slice none 0 0,vi 0] R)<|Jy3 ba 5 R X257 R λy cy L g bz=>Tv<|Jm4 L 5 R Z257 R bz R λa3 i bA=>Tv<|Jd<|Jq<|Jj3<|Je3 R U296 R Z27 ?_
 have aI:=aH.stp (g.tr i)
 refine Jc3 R I27 (aI.ld 1 R R)<|Js3 R U27 R R<|Jb 1 R<|Ob h λaY bQ bL=>?_
 clear h
 refine Jt3 [2,3,4,5] (λd e a=>∃b k,e=d/\Stp [5] L a3 b a/\Bc b a 5 y 257 [vi k,.slice none 0 0,vi 0]/\aY=zw k) ?_ ?_
 refine Jv<|Ju3 [2,3,4,5,16,17] (λf d e a=>∃b B V,e=(18,vi B)::d/\Stp [5] L a3 b a/\Bc b a 5 y 257 [vi V,.slice none 0 0,vi 0]/\0<=B/\zq ((p1.Loop.length:Int)-B)=f/\cntM (fN p0 p1) f B V=some aY) ⟨_,_,⟨L,0,a5,R,Jo3,bA,(by decide),(by simp),bQ⟩,(KM R)⟩ ?_
 rintro f _ cA ⟨an,B,V,rfl,E,P,aS,S,h⟩
 rcases f with _|f
 have T:=h;obtain⟨b0,h⟩:=exq T
 have ai:=dcf S
 refine Jf3 R<|Jq<|Jx2 R ai<|Jc1<|Jt<|Jt ?_
 cases h
 have h:=T
 refine Jb1 ?_
 cases h
 exact Jw1 _ ⟨an,V,R,E.wk R,P,R⟩<|KM R
 obtain⟨b0,h,T⟩:=BI h;unfold fN at h
 have ai:=dct S
 have Z:=(T6 D s m g i E)
 refine Jf3 R<|Jq<|Jw2 R ai<|Js<|Jp<|Jq<|Jv<|Jj3<|Ob h λa6 aW h=>Jd3 R H aW U27 Z2<|Jc3 R I2 ((H.stp<|T3 g i E).gInt aW)<|Jb 1 R<|Jj3<|Jg4 tv R (Jh4 (haE (aJ.stp<|T5 s m g i E).cells) I32 Z32 R)<|Jn 1 R<|Je3 R U257 R Z2<|Jc3 R I2 (P.ld 0 R R)<|Ob h λb5 bT h=>Jw3 R call278 (fu (J:=Mk an) (p0:=p0) (Jn3<|aM.stp Z) (Jn3<|aN.stp Z) (Jn3<|aO.stp Z) bT) ?_
 rintro _ b3 ⟨cm,rfl,bm⟩
 obtain⟨M,ad,cp⟩:=Ji bm 6 R
 refine Tv<|Jd<|Ob h λaZ h bM=>Jt3 [2,3,4,5,16,17,18] (λd e a=>∃b,e=d/\Stp [5] M b3 b a/\Bc b a 5 y 257 [vi aZ,.slice none 0 0,vi 0]) ?_ ?_
 revert h
 cases cj:b5
 refine JF λh=>Jy R<|Js ?_
 cases h
 exact Jw1 _ ⟨M,R,Jo3,(P.stp ad)⟩<|KM R
 refine JT λh=>Jx R<|Jm3 1 R<|Je3 R U257 R Z2<|Jz3 M 5 (off:=0) (vc:=[vi a6]) (cs':=[vi a6,.slice none 0 0,vi 0]) R Z2 R (P.stp ad) R λcD bk bD=>Tv<|Jo ?_
 cases h
 exact Jw1 _ ⟨M,R,bk.wk R,bD⟩<|KM R
 rintro _ cB ⟨bd,rfl,bj,bC⟩
 have h:=bM
 refine Jz<|Jp<|Jg3 R<|wr2 aS S H.len_le ▸ ?_
 cases h
 exact Ja2 ⟨bd,B+1,aZ,R,(T3 E ad bj).wk R,bC,nxz aS,nxm S,T⟩ R
 rintro _ cz ⟨am,k,rfl,q,bB,rfl⟩
 have h:=yI bL
 refine Jp<|Jq<|Jq<|Js1 (J:=am) [3] none [(1,2),(4,2),(8,2),(2,0),(5,0),(0,1),(3,1),(6,1),(7,2)] [] (by kernel_rfl) (by kernel_rfl) λcE n=>Je3 R U296 R Z27<|Je3 R U296 R Z27<|Jn 1 R ?_
 have aK:=aI.stp (q.tr n)
 refine Jg R (Jd2 I27 R R<|hvC (aK.ld 0 R R) R)<|Jg R (Jd2 I27 R R<|hvC (aK.ld 1 R R) R)<|Jc4 am E6 6 R Y27 aR R λb9 cd cF bf j bE=>⟨(j.cl R),Ob h λcK bU h=>Jd4 bf E6 6 [] R Y27 aR R bE (zu (bo _)<|bI.stp<|T8 D s m g i q n j) aV bU R λca cc cG bg o bF=>⟨((j.tr o).cl R),Ob h λa7 bV h=>Jd4 bg E6 6 [] R Y27 aR R bF (zu (bo _)<|H.stp<|T6 g i q n j o) aV bV R λb8 cb a4 W t ah=>⟨((T3 j o t).cl R),Js3 R U27 R R<|Jt1<|Jd<|Ob h λa0 bR bN=>?_⟩⟩⟩
 clear h
 refine Jt3 [4,5] (λd e a=>∃b,∃K:VI×Int,∃N O,e=d/\Stp [5,7] W a4 b a/\Oc E6 2 b a 7 N O K.1/\Bc b a 5 y 257 [vi k,.slice N K.1.length O,vi K.2]/\a0=zw K) ?_ ?_
 refine Jv<|Ju3 [2,4,5,36,37] (λf d e a=>∃b p,∃c:VI×Int,∃x v,e=(38,vi p)::d/\Stp [5,7] W a4 b a/\Oc E6 2 b a 7 x v c.1/\Bc b a 5 y 257 [vi k,.slice x c.1.length v,vi c.2]/\0<=p/\zq ((a7.length:Int)-p)=f/\cntM (fO p0 k a7) f p c=some a0) ⟨_,_,⟨W,0,(([]:VI),(0:Int)),none,0,R,Jo3,Ow.nil,(bB.stp<|T4 n j o t),(by decide),(by simp),bR⟩,(KM R)⟩ ?_
 rintro f _ cI ⟨X,p,c,x,v,rfl,u,Q,z,bO,aQ,h⟩
 rcases f with _|f
 have I:=h;obtain⟨b1,h⟩:=exq I
 have A:=dcf aQ
 refine Jf3 R<|Jq<|Jx2 R A<|Jc1<|Jt<|Jt ?_
 cases h
 have h:=I
 refine Jb1 ?_
 cases h
 exact Jw1 _ ⟨X,(c.1,c.2),x,v,R,u.wk R,Q,z,R⟩<|KM R
 obtain⟨b1,h,I⟩:=BI h;unfold fO at h
 have A:=dct aQ
 refine Jf3 R<|Jq<|Jw2 R A<|Js<|Jp<|Jq<|Jv<|Jj3<|Ob h λa8 aX h=>Jd3 R ah.rdc aX U27 Z2<|Jc3 R I2 ((ah.stp u).rdc.gInt aX)<|Jb 1 R<|Jq<|Jl3 1 R<|Je3 R U257 R Z2<|Jc3 R I2 (z.ld 0 R R)<|Jb 1 R ?_
 revert h
 cases ck:(a8==k)
 have aa:=(T11 D s m g i q n j o t u)
 refine JF λh=>Jy R<|Js<|Jp<|Jq<|Jj3<|Jg4 tv R (Jh4 (haE (aJ.stp<|T10 s m g i q n j o t u).cells) I32 Z32 R)<|Jn 1 R<|Je3 R U257 R Z2<|Jc3 R I2 (z.ld 0 R R)<|Ob h λb6 bW h=>Jw3 R call278 (fu (J:=Mk X) (p0:=p0) (Jn3<|aM.stp aa) (Jn3<|aN.stp aa) (Jn3<|aO.stp aa) bW) ?_
 rintro _ b4 ⟨cn,rfl,bn⟩
 obtain⟨Y,C,co⟩:=Ji bn 8 R
 refine Tv<|Jd<|Ob h λU h bK=>Jt3 [2,4,5,36,37,38] (λd e a=>∃b G F,e=d/\Stp [5,7] Y b4 b a/\Oc E6 2 b a 7 G F U/\Bc b a 5 y 257 [vi k,.slice G U.length F,vi c.2]) ?_ ?_
 revert h
 cases ci:b6
 refine JF λh=>Jy R<|Js ?_
 cases h
 exact Jw1 _ ⟨Y,x,v,R,Jo3,(Q.stp C),(z.stp C)⟩<|KM R
 refine JT λh=>Jx R<|Jk3<|Je3 R U257 R Z27 ?_
 have aG:=z.stp C
 refine Jc3 R I27 (aG.ld 1 R R)<|Jn 1 R<|Ji4 Y 10 [a8] R Y27 aR R λce b7 cs bb ab bq=>Tv<|Ob h λa9 bX h=>Jd4 bb E6 7 [] R Y27 aR R (Q.stp<|C.tr ab) (zu (bo _) bq.rdc) aV bX R λae af ct ak ao br=>Tv<|Je3 R U257 R Z27<|Jz3 ak 5 (off:=1) (vc:=[.slice ae a9.length af]) (cs':=[vi k,.slice ae a9.length af,vi c.2]) R Z27 R (aG.stp<|ab.tr ao) R λcu ap bt=>Tv<|Jo ?_
 cases h
 exact Jw1 _ ⟨ak,ae,af,R,(T3 ab ao ap).wk R,(br.stp ap),bt⟩<|KM R
 rintro _ cr ⟨aj,G,F,rfl,bi,bp,aF⟩
 have h:=bK
 refine Jp<|Jk3<|Je3 R U257 R Z2<|Jc3 R I2 (aF.ld 2 R R)<|Jn 1 R<|Je3 R U257 R Z2<|Jz3 aj 5 (off:=2) (vc:=[vi<|zr .i64<|c.2+1]) (cs':=[vi k,.slice G U.length F,vi<|zr .i64<|c.2+1]) R Z2 R aF R λcv aq bu=>Tv<|Jo<|Jz<|Jp<|Jg3 R ?_
 have bS:zr .i64 (p+1)=p+1:=wr1 bO (Jn2 A) ah.len_le
 rw[bS]
 have A:=Jn2 A
 cases h
 exact Ja2 ⟨aj,p+1,(U,((zr .i64<|c.2+1):Int)),G,F,R,(T4 u C bi aq).wk R,(bp.stp aq),bu,by omega,by omega,I⟩ R
 refine JT λh=>Jx R<|Jc1<|Jt<|Ja3 R<|Jt<|Jt ?_
 cases h
 have h:=I
 refine Jb1 ?_
 cases h
 exact Jw1 _ ⟨X,(c.1,c.2),x,v,R,u.wk R,Q,z,R⟩<|KM R
 rintro _ cH ⟨bh,K,N,O,rfl,au,bH,aL,rfl⟩
 have h:=yI bN
 refine Jp<|Jj3<|Je3 R U257 R Z27<|Jc3 R I27 (aL.ld 1 R R)<|Ob h λcL bY h=>Jw3 R call161 (fZ (J:=λag=>mp [(7,2)] 0<|bh ag) (bH.map (mp [(7,2)] 0) R R) bY) ?_
 rintro _ cw ⟨cl,rfl,bl,bw,bP⟩
 obtain⟨al,ac,bZ⟩:=Ji bl 8 R
 refine Tv<|Jd<|Jj3<|Jg4 tv R (Jh4 (haE (aL.stp ac).cells) I257 Z257 R)<|Jm4 al 4 R Z257 R (bs.stp<|T9 g i q n j o t au ac) R λcx ar bx=>Tv<|Jd<|Ju<|Jb2 (l:=[.cell 4 257]) results254 (bv R bx I257 Z257 R R) R ?_
 cases h
 exact⟨(λag=>ren [(10,2)]<|al ag),N,O,(by simp only[(bP)]),((bJ.stp<|T13 D s m g i q n j o t au ac ar).map (ren [(10,2)]) R R),(((bw.mx (aT _) bZ R (R:8+2=10)).stp ar).map (ren [(10,2)]) R R)⟩
end
end Go.Proofs.YtgbippnfaoedmaaGreatDoor
