/- The walks, part 6. By program. -/
import Derived.Test.YtfombamjdkihnaaGreatFns4EI
import Derived.Test.YtfombamjdkihnaaGreatFns5EI
set_option linter.unusedVariables false
set_option linter.unusedSimpArgs false
open Go.Wk.Ep renaming bool → EQ
open Int renaming toNat → ES
open Go.IntKind renaming wrap → ET
open Option.some renaming inj → EU
open Sum renaming inr → EW
namespace Go.Proofs.YtfombamjdkihnaaGreat
open Tryz
open Go Go.Wk Go.Proofs
set_option maxRecDepth 100000
set_option maxHeartbeats 1000000
section
variable {w:World}{J:Col}
theorem tL {j i}{p0:dice}{p1:Int}{k}(ag:Rd (Rp.int .u8) J w 0 j i p0.b) (av:Bc J w 2 k 52 [.slice j p0.b.length i,vi p0.i,.int .u64 p0.h]){r:VC×Int×Int}(h:lY p0 p1=some r):Ret prog 6 [.pointer (some ⟨k,0,none⟩),vi p1] w (λap b=>∃d G H,ap= .slice G r.1.length H/\Ent J w d b/\Oc Clause.ep54 54 d b 3 G H r.1/\Bc d b 2 k 52 [.slice j p0.b.length i,vi r.2.1,.int .u64 r.2.2]):=by
 refine Jp3 J func6 R ntmps6 R λaw=>Jf3 R<|Jj3<|Jc4 J Clause.ep54 3 R underlying29 qa R λU ao _ K P _=>Tv<|Jb 1 R<|Jq<|Jl3 3 R<|Ob h λC ak h=>Jw3 R C11 (ck (J:=λe=>mp [(2,2)] 0<|K e) (p0:=p0) (Jm2 (ag.stp P) (mp [(2,2)] 0) R R) Fct ak) ?_
 rintro _ I ⟨_,rfl,Y,Z⟩
 refine Im Y 4 R (λu _ an=>Tv<|Jb 1 R<|Ob h λF ai ah=>Jt3 [0] (λt v b=>∃d,∃f:VC×Int×Int×Int,∃o m,v=(5,.slice o f.1.length m)::t/\Stp [3,6,9,10,11,12] u I d b/\Oc Clause.ep54 54 d b 3 o m f.1/\Bc d b 6 k 52 [.slice j p0.b.length i,vi f.2.2.1,.int .u64 f.2.2.2]/\F=EW f) (Jv<|Ju3 [0] (λq t v b=>∃d,∃a:VC×Int×Int×Int,∃p n,v=(5,.slice p a.1.length n)::(6,vi a.2.1)::t/\Stp [3,6,9,10,11,12] u I d b/\Oc Clause.ep54 54 d b 3 p n a.1/\Bc d b 6 k 52 [.slice j p0.b.length i,vi a.2.2.1,.int .u64 a.2.2.2]/\bQ (iM p0) q a=some F) ⟨_,_,⟨u,(([]:VC),C.1,C.2.1,C.2.2),U,ao,R,Jo3,Fct,(Z.mx an R (R:4+2=6)),ai⟩,(KM R)⟩ ?_) ?_)
 rintro q _ _ ⟨D,a,p,n,rfl,O,aa,ab,h⟩
 rcases q with _|q
 cases h
 refine Ob h λ_ h E=>Jq<|Jf3 R ?_
 refine Bk h (λaj h=>Jy R<|Jc1<|Jt<|Jt ?_) (λaj h=>Jx R<|Js<|Jp<|Jq<|Jv<|Jm3 2 R<|Ob h λc al h=>Jw3 R call18 (uE (J:=λe=>mp [(6,2)] 0<|D e) (p0:=(⟨p0.b,a.2.2.1,a.2.2.2⟩:dice)) (Jm2 Fct (mp [(6,2)] 0) R R) Fct al) ?_)
 cases h
 exact have h:=E;Jb1 (Oh h<|Jw1 _ ⟨D,(a.1,a.2.1,a.2.2.1,a.2.2.2),p,n,R,Fct,aa,ab,R⟩<|KM R)
 rintro _ s ⟨_,A,z,x,y,rfl,X,ac,ad,ae⟩
 refine Im X 7 R (λg Q B=>Tv<|Jb4 g Clause.ep54 12 [10,11] (parts:=[(0,.tmp 18)]) (cells:=[vi c.1.Kind,.slice A c.1.A.length z,.slice x c.1.B.length y]) (xs:=([c.1]:VC)) R underlying29 qa R (Jj4 ⟨[vi c.1.Kind],[.slice A c.1.A.length z,.slice x c.1.B.length y],Zl g s [],Zl g s [10,11],R,Zl.sp (l1:=[]) (l2:=[10,11]) R,Zl.sr (l1:=[]) (l2:=[10,11]),R,⟨[.slice A c.1.A.length z],[.slice x c.1.B.length y],Zl g s [10],Zl g s [11],R,Zl.sp (l1:=[10]) (l2:=[11]) R,Zl.sr (l1:=[10]) (l2:=[11]),⟨_,_,R,(ac.mx (bI _) B R (R:7+3=10))⟩,⟨_,_,R,(ad.mx (bI _) B R (R:7+4=11))⟩⟩⟩) λar au _ M S af=>Tv<|Ob h λaq am h=>Jd4 M Clause.ep54 3 [12] R underlying29 qa R Fct af.src (c7 R) am R λV W _ N T _=>Tv<|Jc 1 R<|Jz<|Jp<|Jg3 R ?_)
 cases h
 exact Ja2 ⟨(λe=>ren [(9,6)]<|N e),(aq,((ET .i64<|a.2.1-1):Int),c.2.1,c.2.2),V,W,R,(Jz2 ((T4 O Q S T).wk R) [(9,6)] R),Fct,(((ae.mx B R (R:7+2=9)).stp Fct).map (ren [(9,6)]) R R),E⟩ R
 rintro _ _ ⟨L,f,o,m,rfl,_,_,_,rfl⟩
 exact have h:=yI ah;Jp (Jf3 R<|Ju<|Jb2 (l:=[.tmp 4]) results6 (Jq2 R R) R<|Oh h<|⟨(λe=>ren [(6,2)]<|L e),o,m,R,Fct,Fct,Fct⟩)
theorem dR {m u}{p0:VC}{c1_0:Sig}{n}(f:Rd Clause.rp J w 0 m u p0) (K:Bc J w 0 n 28 [vi c1_0.In,vi c1_0.Out]){r:Int}(h:ca p0 c1_0=some r):Ret prog 156 [.slice m p0.length u,.func (.func 101) #[] #[.pointer (some ⟨n,0,none⟩)]] w (Pvi J w r):=by
 refine Jp3 J func156 R ntmps156 R λL=>Jf3 R<|Jq<|Jl3 1 R<|Js3 R U29 R R<|Jb 1 R<|Ob h λt A o=>Jt3 [1] (λd e g=>∃i,e=d/\Stp [] J w i g/\t=EW ()) (Jv<|Ju3 [0,1,7] (λb d e g=>∃i a,e=(8,vi a)::d/\Stp [] J w i g/\0<=a/\ES ((p0.length:Int)-a)=b/\cntM (bZ p0 c1_0) b a ()=some t) ⟨_,_,⟨J,0,R,Jo3,(by decide),(by simp),A⟩,(KM R)⟩ ?_) ?_
 rintro b _ _ ⟨k,a,rfl,x,p,c,h⟩
 rcases b with _|b
 exact Jf3 R<|Jq<|Jx2 R (dcf c)<|Jc1<|Jt<|Jt<|Jb1<|Oh h<|Jw1 _ ⟨k,R,Fct,R⟩<|KM R
 refine Ob h λM h q=>Jf3 R<|Jq<|Jw2 R (dct c)<|Js<|Jp<|Jq<|Jv<|Jf3 R<|Jl3 3 R<|Ob h λE s h=>Jd3 R f s U29 Z54 ?_
 obtain⟨_,B,z⟩:=((f.stp x)).gSt s
 obtain⟨F,N,G,O,rfl,H,I⟩:=Clause.un B
 refine Jg4 tv R (Jh4 (haE z) I54 Z54 R)<|Ob h λP D h=>WO.callV R R R R R R R R call101 (qz (J:=Mk k) (p0:=E) (c0:=c1_0) Gct Gct Fct D) ?_
 rintro _ _ ⟨_,rfl,y⟩
 refine Im y 2 R (λj _ _=>Tv<|Jd ?_)
 refine Bk h (λC h=>Jy R<|Js<|Jz<|Jp<|Jg3 R<|wr2 p c f.len_le ▸ ?_) (λC h=>Jx R<|Jf3 R<|Ju<|Ja1<|Jw<|Jw ?_)
 cases h
 exact Ja2 ⟨j,a+1,R,Fct,nxz p,nxm c,q⟩ R
 cases h
 obtain rfl:=EU q
 exact have h:=yL o;Ja1 (Jr2<|Jw<|Jb2 (l:=[.tmp 4]) results156 (Jq2 R R) R<|Oh h<|⟨j,R,Fct⟩)
 rintro _ _ ⟨v,rfl,_,rfl⟩
 exact have h:=yI o;Jp (Jf3 R<|Ju<|Jb2 (l:=[.tmp 4]) results156 (Jq2 R R) R<|Oh h<|⟨v,R,Fct⟩)
theorem sv {c b}{p0:Place}{a f}{c0:VP}{d}(s:Rd Ri J w 0 c b p0.Record) (t:Rd Pair.rp J w 0 a f c0) (p:Bc J w 0 d 56 [.slice a c0.length f]){r:VI}(h:kp p0 c0=some r):Ret prog 61 [.agg #[vi p0.At,.slice c p0.Record.length b],.pointer (some ⟨d,0,none⟩)] w (Pvs E6 2 J w r):=by
 exact Jp3 J func61 R ntmps61 R λu=>Jj3<|Jx3 J 2 R λ_ _ i j e=>Tv<|Jb 1 R<|Jj3<|Jc3 R I56 ((p.stp j).ld 0 R R)<|Je3 R U76 R Z31<|Jc3 R I31 (e.ld 1 R R)<|Je3 R U76 R Z2<|Jc3 R I2 (e.ld 0 R R)<|Ob h λ_ q h=>Jw3 R call62 (ss (J:=Mk i) Gct Gct q)<|Ks 5 (bI _) λm k _ g _ o=>Tv<|Jb 1 R<|Ju<|Jb2 (l:=[.tmp 3]) results61 (Jq2 R R) R<|Oh h<|⟨(λn=>ren [(5,2)]<|g n),m,k,R,Fct,(o.map (ren [(5,2)]) R R)⟩
theorem vG {a c}{p0:VL}{p1:Int}{b d}{p2:VI}(j:Rd Place.rp J w 0 a c p0) (k:Rd Ri J w 0 b d p2){r:Int}(h:pq p0 p1 p2=some r):Ret prog 107 [.slice a p0.length c,vi p1,.slice b p2.length d] w (Pvi J w r):=by
 exact Jp3 J func107 R ntmps107 R λm=>Jj3<|Jx3 J 2 R λ_ _ f _ _=>Tv<|Jx3 f 3 R λ_ _ g _ _=>Tv<|Jb 1 R<|Jl3 1 R<|Jf R (dH (first:=[]) (captured:=[.tmp 4,.tmp 5]) R R R ⟨_,R⟩)<|Ob h λ_ i h=>Jw3 R call170 (em (J:=Mk g) Gct Gct Fct Fct i)<|Ki λ_ e _=>Tv<|Jb 1 R<|Ju<|Jb2 (l:=[.tmp 6]) results107 (Jq2 R R) R<|Oh h<|⟨e,R,Fct⟩
theorem sx {b c}{p0:Place}{a f}{c0:VP}{d}(n:Rd Ri J w 0 b c p0.Record) (o:Rd Pair.rp J w 0 a f c0) (k:Bc J w 0 d 56 [.slice a c0.length f]){r:Int}(h:kq p0 c0=some r):Ret prog 63 [.agg #[vi p0.At,.slice b p0.Record.length c],.pointer (some ⟨d,0,none⟩)] w (Pvi J w r):=by
 exact Jp3 J func63 R ntmps63 R λp=>Jj3<|Jx3 J 2 R λ_ _ i j e=>Tv<|Jb 1 R<|Jj3<|Jc3 R I56 ((k.stp j).ld 0 R R)<|Je3 R U76 R Z31<|Jc3 R I31 (e.ld 1 R R)<|Je3 R U76 R Z2<|Jc3 R I2 (e.ld 0 R R)<|Ob h λ_ m h=>Jw3 R call64 (su (J:=Mk i) Gct Gct m)<|Ki λ_ g _=>Tv<|Jb 1 R<|Ju<|Jb2 (l:=[.tmp 3]) results63 (Jq2 R R) R<|Oh h<|⟨g,R,Fct⟩
theorem tG {g i f c e d}{p0:Parity}{s y}{p1:VI}(aO:Rd Ri J w 0 g i p0.Arena.Owner) (aP:Rd Rs J w 0 f c p0.Arena.Next) (aQ:Rd Ri J w 0 e d p0.Prio) (aR:Rd Ri J w 0 s y p1){r:VI×VI}(h:qI p0 p1=some r):Ret prog 65 [.agg #[.slice g p0.Arena.Owner.length i,.slice f p0.Arena.Next.length c,.slice e p0.Prio.length d],.slice s p1.length y] w (λaA k=>∃n t v u x,aA= .tuple #[.slice t r.1.length v,.slice u r.2.length x]/\Ent J w n k/\Oc E6 2 n k 2 t v r.1/\Oc E6 2 n k 3 u x r.2):=by
 refine Jp3 J func65 R ntmps65 R λaS=>Jj3<|Jx3 J 2 R λ_ _ o _ ai=>Tv<|Jb 2 R<|Jq<|Xn o [2] [5,0,6,10,14,16,20] λ_ Q=>Je3 R U66 R Z62 (have j:=ai.stp Q;Jg R (Jh4 (haC j.cells R) I66 Z66 R) (Jg R (Jh4 (haC (j.lds 0 2 R) R) I62 Z62 R)<|Ob h λz ap h=>Jw3 R call109 (vH (J:=Mk o) (p0:=p0.Arena) Gct Gct ap)<|Ks 5 (cK (bI _) _) λS Z _ D b ag=>⟨(b.cl R),Jf R (Jn4 [.slice g p0.Arena.Owner.length i,.slice f p0.Arena.Next.length c,.slice e p0.Prio.length d,.slice S z.length Z] R)<|Jx3 D 6 R λ_ _ E q _=>⟨((b.tr q).cl R),Jn 1 R<|Jt1<|Jd<|Jj3<|Je3 R U66 R Z62<|Jg4 tv R (Jh4 (haE ((j.stp<|b.tr q).lds 0 2 R)) I62 Z62 R)<|Jn 1 R<|Ob h λ_ aq h=>Jw3 R call110 (xj (J:=Mk E) (p0:=p0.Arena) Gct Gct Gct aq)<|Ks 9 cQ λaK aI m F _ ah=>Tv<|Jb 1 R<|Jl3 2 R ?_⟩⟩))
 obtain⟨G,O,aB⟩:=dg F m 5
 obtain⟨H,_,aC⟩:=dg G m 9
 obtain⟨I,P,aD⟩:=dg H m 6
 refine Ob h λaT ar h=>have aj:=(Sl.st aC (ah.stp O).rdc).stp P;Jw3 R call111 (sy _ (J:=λa=>mp [] 1<|I a) (p0:=(⟨p0,z⟩:solver)) (Jm2 Fct (mp [] 1) R R) (Jm2 Fct (mp [] 1) R R) (Jm2 Fct (mp [] 1) R R) (Jm2 ((Sl.st aB (ag.stp Fct).rdc).stp Fct) (mp [] 1) R R) (Jm2 aj (mp [] 1) R R) ((Bc.fzz aD Fct).map (mp [] 1) R R) ar) ?_
 rintro _ _ ⟨_,aG,aH,rfl,ac,ak⟩
 refine Im0 ac 10 R (λp _ _ aE=>Tv<|have aN:=ak.mx aE;Jb 5 R (Jq<|Jf3 R ?_))
 exact Bk h (λao h=>Jy R<|Js<|Jp<|Jl3 2 R<|Ob h λ_ ax h=>Jw3 R call113 (iK (J:=Mk p) Gct Gct ax)<|Ks 15 cQ λaF aL _ A _ ad=>Tv<|Ob h λ_ ay h=>Jw3 R call112 (iq (J:=Mk A) (Jn3 ad.rdc) ay)<|Ks 18 (bI _) λX V _ B _ ae=>Tv<|Jn 1 R<|Ob h λ_ az h=>Jw3 R call112 (iq (J:=Mk B) Gct az)<|Ks 21 (bI _) λab aa _ C N af=>Tv<|Jb 2 R<|Ju<|Jb2 (l:=[.tmp 4,.tmp 5]) results65 (Jq2 R<|Jq2 R R) R<|Oh h<|⟨(λa=>ren [(18,2),(21,3)]<|C a),X,V,ab,aa,R,Fct,((ae.stp N).map (ren [(18,2),(21,3)]) R R),(af.map (ren [(18,2),(21,3)]) R R)⟩) (λao h=>Jx R<|Jl3 1 R<|Ob h λ_ au h=>Jw3 R call112 (iq (J:=Mk p) Gct au)<|Ks 15 (bI _) λT U _ K _ al=>Tv<|Jn 2 R<|Ob h λ_ av h=>Jw3 R call113 (iK (J:=Mk K) Gct Gct av)<|Ks 18 cQ λaJ aM _ L _ am=>Tv<|Ob h λ_ aw h=>Jw3 R call112 (iq (J:=Mk L) (Jn3 am.rdc) aw)<|Ks 21 (bI _) λW Y _ M _ an=>Tv<|Jb 2 R<|Ju<|Jw<|Jb2 (l:=[.tmp 4,.tmp 5]) results65 (Jq2 R<|Jq2 R R) R<|Oh h<|⟨(λa=>ren [(15,2),(21,3)]<|M a),T,U,W,Y,R,Fct,((al.stp Fct).map (ren [(15,2),(21,3)]) R R),(an.map (ren [(15,2),(21,3)]) R R)⟩)
theorem xm {ar N M I L K}{p0:Parity}{H aa}{p1:VI}(aB:Rd Ri J w 0 ar N p0.Arena.Owner) (aC:Rd Rs J w 0 M I p0.Arena.Next) (aD:Rd Ri J w 0 L K p0.Prio) (aE:Rd Ri J w 0 H aa p1){r:Parity}(h:qH p0 p1=some r):Ret prog 117 [.agg #[.slice ar p0.Arena.Owner.length N,.slice M p0.Arena.Next.length I,.slice L p0.Prio.length K],.slice H p1.length aa] w (λaz a=>∃b U X V Y W Z,az= .agg #[.slice U r.Arena.Owner.length X,.slice V r.Arena.Next.length Y,.slice W r.Prio.length Z]/\Ent J w b a/\Oc E6 2 b a 2 U X r.Arena.Owner/\Oc (Ep.own E6 2) 31 b a 3 V Y r.Arena.Next/\Oc E6 2 b a 4 W Z r.Prio):=by
 refine Jp3 J func117 R ntmps117 R λaF=>Jj3<|Jx3 J 2 R λ_ _ ad _ av=>Tv<|Jy3 ad 3 R X66 R λal aA o aj _=>Tv<|Jd<|Jq<|Ob h λc Q h=>Ob h λz P h=>Jt3 [4] (λab ai a=>∃b s u t v x y,ai=ab/\Stp [3,4,6,7,8] o aA b a/\Oc E6 2 b a 4 s u c.Owner/\Oc (Ep.own E6 2) 31 b a 5 t v c.Next/\Oc E6 2 b a 6 x y z/\Bc b a 3 al 66 [.slice s c.Owner.length u,.slice t c.Next.length v,.slice x z.length y]) (WC.rxt (J:=o) [2] none (by kernel_rfl) λ_ A=>Jq1 (fuel:=5) [(0,2),(2,2),(5,2),(1,0),(6,0)] (by kernel_rfl) (by kernel_rfl) R<|Je3 R U66 R Z62<|Jn 1 R<|Je3 R U66 R Z31 (have O:=av.stp (aj.tr A);Jg R (Jh4 (haC (O.lds 0 2 R) R) I62 Z62 R) (Jg R (Jd2 I31 R R<|hvC (O.ld 2 R R) R)<|Jp1<|WA.fork2 (fuel:=4) 3 4 (by kernel_rfl) R (Jw3 R call176 (qC (J:=Mk o) (p0:=p0.Arena) Gct Gct Gct Q) ?_)<|Jc4 o E6 4 R Y31 bG R λak ay _ ag e _=>⟨(e.cl R),Jp1<|Jq1 (fuel:=0) [(3,1),(7,1),(8,2),(9,1)] (by kernel_rfl) (by kernel_rfl) R<|Jw3 R call176 (qC (J:=Mk ag) (p0:=p0.Arena) Gct Gct Gct Q) ?_⟩))) ?_
 rintro _ _ ⟨_,m,i,j,f,rfl,am,ap,aq⟩
 exact Im am 4 R (λae d S=>⟨(d.cl R),Jp1<|Jq1 (fuel:=0) [(4,1),(7,1),(8,2),(9,1)] (by kernel_rfl) (by kernel_rfl) R<|Jc4 ae E6 8 R Y31 bG R λak ay _ af p au=>⟨((d.tr p).cl R),Jd4 af E6 8 [] R Y31 bG R au (Sl.srcP (bO _) Fct) bJ P R λg k _ D B _=>⟨((T3 d p B).cl R),Jf R (Jn4 [.slice m c.Owner.length i,.slice j c.Next.length f,.slice g z.length k] R)<|Jm4 D 3 R Z66 R Fct R λ_ F _=>⟨((T4 d p B F).cl R),Jp1<|Jr1 [] (by kernel_rfl) (by kernel_rfl) R<|Jo<|Jw1 _ ⟨(λn=>ren [(6,4),(7,5),(8,6)]<|D n),m,i,j,f,g,k,R,(Jz2 ((T5 A d p B F).wk R) [(6,4),(7,5),(8,6)] R),(((ap.mx (bI _) S R (R:4+2=6)).stp Fct).map (ren [(6,4),(7,5),(8,6)]) R R),(((aq.mx (cK (bI _) _) S R (R:4+3=7)).stp Fct).map (ren [(6,4),(7,5),(8,6)]) R R),Fct,Fct⟩<|KM R⟩⟩⟩⟩)
 rintro _ _ ⟨_,m,i,j,f,rfl,an,aw,ax⟩
 exact Im an 5 R (λah q T=>⟨((e.tr q).cl R),Jd4 ah E6 4 [] R Y31 bG R Fct (Sl.srcP (bO _) Fct) bJ P R λg k _ E C _=>⟨((T3 e q C).cl R),Jf R (Jn4 [.slice m c.Owner.length i,.slice j c.Next.length f,.slice g z.length k] R)<|Jm4 E 3 R Z66 R Fct R λ_ G _=>⟨((T4 e q C G).cl R),Jp1<|Jr1 [] (by kernel_rfl) (by kernel_rfl) R<|Jo<|Jw1 _ ⟨(λn=>ren [(7,4),(8,5),(4,6)]<|E n),m,i,j,f,g,k,R,(Jz2 ((T5 A e q C G).wk R) [(7,4),(8,5),(4,6)] R),(((aw.mx (bI _) T R (R:5+2=7)).stp Fct).map (ren [(7,4),(8,5),(4,6)]) R R),(((ax.mx (cK (bI _) _) T R (R:5+3=8)).stp Fct).map (ren [(7,4),(8,5),(4,6)]) R R),Fct,Fct⟩<|KM R⟩⟩⟩)
 rintro _ _ ⟨ac,s,u,t,v,x,y,rfl,_,_,_,_,ao⟩
 exact Jp<|Ju<|Jb2 (l:=[.cell 4 66]) results117 (bM R ao I66 Z66 R R) R<|Oh h<|⟨(λn=>ren [(4,2),(5,3),(6,4)]<|ac n),s,u,t,v,x,y,R,Fct,Fct,Fct,Fct⟩
theorem dO {a b}{p0:VI}{p1:Int}(f:Rd Ri J w 0 a b p0){r:Bool}(h:dD p0 p1=some r):Ret prog 80 [.slice a p0.length b,vi p1] w (Pvb J w r):=by
 exact Jp3 J func80 R ntmps80 R λg=>Jj3<|Jx3 J 2 R λ_ _ c _ _=>Tv<|Jb 1 R<|Jl3 1 R<|Jf R (dH (first:=[]) (captured:=[.tmp 3]) R R R ⟨_,R⟩)<|Ob h λ_ e h=>Jw3 R call132 (eF (J:=Mk c) Gct Fct e)<|Kb λ_ d _=>Tv<|Jb 2 R<|Ju<|Jb2 (l:=[.tmp 4]) results80 (Jq2 R R) R<|Oh h<|⟨d,R,Fct⟩
theorem mG {p0:Sig}{n m k j}{p1:Clause}(af:Rd Ri J w 0 n m p1.A) (ag:Rd Ri J w 0 k j p1.B){r:Bool}(h:jo p0 p1=some r):Ret prog 134 [.agg #[vi p0.In,vi p0.Out],.agg #[vi p1.Kind,.slice n p1.A.length m,.slice k p1.B.length j]] w (Pvb J w r):=by
 refine Jp3 J func134 R ntmps134 R λah=>Jj3<|Jx3 J 2 R λ_ _ s _ D=>Tv<|Jx3 s 3 R λ_ _ u B p=>Tv<|Jb 1 R<|Jq<|Jj3 (have q:=D.stp B;Jg4 tv R (Jh4 (haE q.cells) I28 Z28 R) (Ob h λak U h=>Jw3 R call91 (ic (J:=Mk u) (p0:=p0) U)<|Kb λaa c a=>Tv<|Jn 2 R<|Ob h λV h E=>Jk4 [2,3] 14 V c aa 5 tv ?_ ?_))
 exact Bk h (λI h=>Je3 R U54 R Z2<|Jc3 R I2 ((p.stp a).ld 0 R R)<|Ob h λ_ O h=>Jw3 R C92 (dB (J:=Mk c) O)<|Kb λ_ _ _=>Tv<|Jn 2 R<|Oh h<|Jv1 _ tv ⟨R,_,Fct⟩<|KM R) (λI h=>Jn 1 R<|Je4 R<|Je4 R<|Jn 2 R<|Oh h<|Jl4 tv R)
 rintro _ _ _ ⟨rfl,d,g⟩
 refine have h:=E;Jd ?_
 refine Bk h (λK h=>Jy R<|Js<|Jp<|Jj3<|Jg4 tv R (Jh4 (haE (q.stp<|a.tr g).cells) I28 Z28 R)<|Ob h λ_ P h=>Jw3 R call88 (eQ (J:=Mk d) (p0:=p0) P)<|Ki λ_ t z=>Tv<|Jb 1 R<|Jj3<|Je3 R U54 R Z31 (have b:=p.stp (T3 a g z);Jc3 R I31 (b.ld 1 R R) (Jn 1 R<|Ob h λai Q h=>Jw3 R call181 (nY (J:=Mk t) Gct Q)<|Kb λab e i=>Tv<|Jn 1 R<|Ob h λW h F=>Jk4 [3] 26 W e ab 5 tv ?_ ?_))) (λK h=>Jx R<|Jf3 R<|Ju<|Jw<|Jb2 (l:=[.tmp 4]) results134 (Jq2 R R) R<|Oh h<|⟨d,R,Fct⟩)
 exact Bk h (λL h=>Jn 1 R<|Je4 R<|Jn 1 R<|Je4 R<|Jn 1 R<|Oh h<|Jl4 tv R) (λL h=>Je3 R U54 R Z31<|Jc3 R I31 ((b.stp i).ld 2 R R)<|Jn 1 R<|Ob h λ_ S h=>Jw3 R call181 (nY (J:=Mk e) Gct S)<|Kb λ_ _ _=>Tv<|Jn 1 R<|Oh h<|Jv1 _ tv ⟨R,_,Fct⟩<|KM R)
 rintro _ ac _ ⟨rfl,f,A⟩
 refine Jn 1 R<|Ob F λY h G=>Ju1 [(11,2),(12,1),(13,1),(14,2),(15,2),(16,1),(17,2),(18,2),(19,2),(20,2)] [(21,2)] (λy Z=>y=[(37,.bool Y)]/\∃ae,Stp [] f ac ae Z) tv ?_ ?_
 refine Bk h (λM h=>Jn 1 R<|Je4 R<|Je4 R<|Jn 2 R<|Je4 R<|Jn 4 R<|Oh h<|Jl4 tv R) (λM h=>Je3 R U54 R Z2 (have o:=b.stp (i.tr A);Jc3 R I2 (o.ld 0 R R) (Ob h λaj T h=>Jw3 R call190 (wx (J:=Mk f) T)<|Kb λad v C=>Tv<|Jn 1 R<|Ob h λX h H=>Jk4 [27] 36 X v ad 5 tv ?_ ?_)))
 exact Bk h (λN h=>Je3 R U54 R Z31<|Jc3 R I31 ((o.stp C).ld 2 R R)<|Js3 R U31 R R<|Jn 2 R<|Oh h<|Jl4 tv R) (λN h=>Jn 1 R<|Je4 R<|Jn 3 R<|Oh h<|Jl4 tv R)
 rintro _ _ _ ⟨rfl,_,_⟩
 exact have h:=H;Jn 1 R (Oh h<|Jv1 _ tv ⟨R,_,Fct⟩<|KM R)
 rintro _ _ _ ⟨rfl,x,_⟩
 exact have h:=G;Jb 1 R (Ju<|Jb2 (l:=[.tmp 4]) results134 (Jq2 R R) R<|Oh h<|⟨x,R,Fct⟩)
theorem lr {b c}{p0:VI}{p1:Int}(m:Rd Ri J w 0 b c p0){r:Bool}(h:jO p0 p1=some r):Ret prog 182 [.slice b p0.length c,vi p1] w (Pvb J w r):=by
 refine Jp3 J func182 R ntmps182 R λn=>Jf3 R<|Jl3 1 R<|Ob h λo i h=>Jw3 R C92 (dB (J:=Mk J) i)<|Kb λk a _=>Tv<|Jn 1 R<|Ob h λj h e=>Jk4 [4] 11 j a k 4 tv ?_ ?_
 exact Bk h (λf h=>Jn 2 R<|Je4 R<|Jn 1 R<|Oh h<|Jl4 tv R) (λf h=>Jn 2 R<|Ob h λ_ g h=>Jw3 R call181 (nY (J:=Mk a) Gct g)<|Kb λ_ _ _=>Tv<|Jn 1 R<|Oh h<|Jv1 _ tv ⟨R,_,Fct⟩<|KM R)
 rintro _ _ _ ⟨rfl,d,_⟩
 exact have h:=e;Jb 1 R (Ju<|Jb2 (l:=[.tmp 4]) results182 (Jq2 R R) R<|Oh h<|⟨d,R,Fct⟩)
theorem uM {p0:Sig}{B A C z}{p1:Det}{p2:Int}{u:Int}(F:Rd Rs J w 0 B A p1.Next) (aw:Rd Pair.rp J w 0 C z p1.Pairs){r:VI}(h:nZ p0 p1 p2 u=some r):Ret prog 122 [.agg #[vi p0.In,vi p0.Out],.agg #[.slice B p1.Next.length A,.slice C p1.Pairs.length z],vi p2,vi u] w (λaq b=>∃c L M,aq= .slice L r.length M/\Ent J w c b/\Rd Ri c b 0 L M r):=by
 refine Jp3 J func122 R ntmps122 R λax=>Jj3<|Jx3 J 2 R λ_ _ P W ag=>Tv<|Jx3 P 3 R λ_ _ V y ai=>Tv<|Jb 1 R<|Jj3<|Jc4 V E6 4 R Y31 bG R λY ab v O o ae=>Tv<|Jb 1 R<|Jq<|Jf3 R<|Ob h λK al aj=>?_
 obtain⟨k,p,au⟩:=dg O v 4
 refine Jx1 (λn b=>∃c,∃j:VI×Int,∃g d,n=[(9,.slice g j.1.length d)]/\Stp [] k v c b/\Rd Ri c b 0 g d j.1/\K=EW j) (Jv<|Ju3 [2,3,4,5] (λi N n b=>∃c,∃a:VI×Int,∃f e,n=(9,.slice f a.1.length e)::(10,vi a.2)::N/\Stp [] k v c b/\Rd Ri c b 0 f e a.1/\bQ (jX p0 p1 p2 u) i a=some K) ⟨_,_,⟨k,(([]:VI),(0:Int)),Y,ab,R,Jo3,(Sl.st au ae.rdc),al⟩,(KM R)⟩ ?_) ?_
 rintro i _ _ ⟨S,a,f,e,rfl,q,_,h⟩
 rcases i with _|i
 cases h
 refine Ob h λ_ h G=>Jq<|Jl3 1 R<|Je3 R U28 R Z2 (have D:=ag.stp (T4 y o p q);Jc3 R I2 (D.ld 1 R R) (Ob h λay an h=>Jw3 R call94 (eD (J:=Mk S) an)<|Ki λ_ m s=>Tv<|Jb 1 R ?_))
 refine Bk h (λam h=>Jy R<|Jc1<|Jt<|Jt ?_) (λam h=>Jx R<|Js<|Jp<|Jq<|Jv<|Js1 (J:=m) [0,2,3] none [(0,2),(1,2),(3,2),(7,2),(8,2),(2,0),(4,2),(5,0),(6,0),(9,1),(10,2),(11,0),(12,1),(13,2)] [] (by kernel_rfl) (by kernel_rfl) λ_ t=>Jn 1 R<|Je3 R U58 R Z32<|Jn 3 R<|Jg R (Jd2 I32 R R<|hvC ((ai.stp<|T5 o p q s t).ld 0 R R) R)<|Ob h λ_ H h=>Jd3 R F H U32 Z31 ?_)
 cases h
 exact have h:=G;Jb1 (Oh h<|Jw1 _ ⟨m,(a.1,a.2),f,e,R,Fct,Fct,R⟩<|KM R)
 obtain⟨_,_,E,ak⟩:=(F.stp (T7 W y o p q s t)).gSl H
 refine Jg R (Jd2 I31 R R<|hvC ak R)<|Jg R (Jh4 (haC (D.stp<|s.tr t).cells R) I28 Z28 R)<|Ob h λ_ ao h=>Jw3 R call44 (mH (J:=Mk m) (p0:=p0) ao)<|Ki λ_ T x=>⟨(x.cl R),Ob h λ_ I h=>Jd3 R E I U31 Z2<|Jg R (Jd2 I2 R R<|hvC (E.gInt I) R)<|Ob h λar ap h=>Jw3 R call46 (oY (J:=λac=>mp [] 1<|T ac) (Jm2 Fct (mp [] 1) R R) ap) ?_⟩
 rintro _ _ ⟨_,Z,aa,rfl,ad,ah⟩
 refine Im0 ad 9 R (λU X _ av=>⟨((x.tr X).cl R),Jn 1 R<|Jt1<|Jo<|Jz<|Jp<|Jg3 R ?_⟩)
 cases h
 exact Ja2 ⟨U,(ar,((ET .i64<|a.2+1):Int)),Z,aa,R,Fct,(ah.mx av),G⟩ R
 rintro _ _ ⟨Q,j,g,d,rfl,_,af,rfl⟩
 exact have h:=yI aj;Jp (Jf3 R<|Ju<|Jb2 (l:=[.tmp 8]) results122 (Jq2 R R) R<|Oh h<|⟨Q,g,d,R,Fct,af⟩)
theorem qW {B z A C}{p0:Arena}(q:Rd Ri J w 0 B z p0.Owner) (e:Rd Rs J w 0 A C p0.Next){r:Bool}(h:mZ p0=some r):Ret prog 123 [.agg #[.slice B p0.Owner.length z,.slice A p0.Next.length C]] w (Pvb J w r):=by
 refine Jp3 J func123 R ntmps123 R λax=>Jj3<|Jx3 J 2 R λ_ _ P k n=>Tv<|Jb 1 R<|Jj3<|Je3 R U62 R Z31<|Jc3 R I31 (n.ld 0 R R)<|Js3 R U31 R R<|Jb 1 R<|Jq<|Jl3 1 R<|Ob h λaA am h=>Jw3 R C92 (dB (J:=Mk P) am)<|Kb λav U a=>Tv<|Jn 2 R<|Ob h λan h V=>Jk4 [1,3] 19 an U av 8 tv ?_ ?_
 exact Bk h (λae h=>Je3 R U62 R Z32 (have D:=n.stp a;Jc3 R I32 (D.ld 1 R R) (Js3 R U32 R R<|Je3 R U62 R Z31<|Jc3 R I31 (D.ld 0 R R)<|Js3 R U31 R R<|Jn 2 R<|Oh h<|Jl4 tv R))) (λae h=>Jn 1 R<|Je4 R<|Jn 2 R<|Je4 R<|Jn 3 R<|Oh h<|Jl4 tv R)
 rintro _ N _ ⟨rfl,j,b⟩
 refine have h:=V;Jd ?_
 refine Bk h (λaf h=>Jy R<|Js<|Jp<|Jq<|Jf3 R<|Ob h λM ad E=>Jx1 (λp s=>∃t,p=[]/\Stp [] j N t s/\M=EW ()) (Jv<|Ju3 [1,3] (λi O p s=>∃t f,p=(4,vi f)::O/\Stp [] j N t s/\0<=f/\ES ((p0.Owner.length:Int)-f)=i/\cntM (kx p0) i f ()=some M) ⟨_,_,⟨j,0,R,Jo3,(by decide),(by simp),ad⟩,(KM R)⟩ ?_) ?_) (λaf h=>Jx R<|Jf3 R<|Ju<|Jw<|Jb2 (l:=[.tmp 2]) results123 (Jq2 R R) R<|Oh h<|⟨j,R,Fct⟩)
 rintro i _ _ ⟨u,f,rfl,c,F,o,h⟩
 rcases i with _|i
 exact Jq<|Jl3 1 R<|Je3 R U62 R Z31<|Jc3 R I31 ((n.stp<|T3 a b c).ld 0 R R)<|Js3 R U31 R R<|Jb 1 R<|Jx2 R (dcf o)<|Jc1<|Jt<|Jt<|Jb1<|Oh h<|Jw1 _ ⟨u,R,Fct,R⟩ KN
 refine Ob h λay h G=>have Z:=dct o;Jq (Jl3 1 R<|Je3 R U62 R Z31 (have g:=n.stp (T3 a b c);Jc3 R I31 (g.ld 0 R R) (Js3 R U31 R R<|Jb 1 R<|Jw2 R Z<|Js<|Jp<|Jq<|Jv<|Jj3<|Je3 R U62 R Z31<|Jc3 R I31 (g.ld 0 R R)<|Jn 1 R<|Ob h λ_ H h=>Jd3 R q H U31 Z2<|Jc3 R I2 ((q.stp<|T4 k a b c).gInt H)<|Ob h λaz ak h=>Jw3 R C92 (dB (J:=Mk u) ak)<|Kb λar S d=>Tv<|Jn 2 R<|Ob h λao h W=>Jk4 [1,3,4] 42 ao S ar 8 tv ?_ ?_)))
 refine Bk h (λag h=>Je3 R U62 R Z32<|Jc3 R I32 ((g.stp d).ld 1 R R)<|Jn 1 R<|Ob h λ_ I h=>Jd3 R e I U32 Z31 ?_) (λag h=>Jn 1 R<|Je4 R<|Jn 2 R<|Je4 R<|Jn 3 R<|Oh h<|Jl4 tv R)
 obtain⟨_,_,_,aa⟩:=(e.stp (T5 k a b c d)).gSl I
 exact Jc3 R I31 aa<|Js3 R U31 R R<|Jn 2 R<|Oh h<|Jl4 tv R
 rintro _ au _ ⟨rfl,T,m⟩
 refine Jn 1 R<|Ob W λap h X=>Jk4 [1,3,4] 51 ap T au 8 tv ?_ ?_
 refine Bk h (λah h=>Je3 R U62 R Z32<|Jc3 R I32 ((g.stp<|d.tr m).ld 1 R R)<|Jn 1 R<|Ob h λ_ K h=>Jd3 R e K U32 Z31 ?_) (λah h=>Jn 1 R<|Je4 R<|Jn 2 R<|Je4 R<|Jn 3 R<|Oh h<|Jl4 tv R)
 obtain⟨_,_,_,ab⟩:=(e.stp (T6 k a b c d m)).gSl K
 exact Jc3 R I31 ab<|Js3 R U31 R R<|Jn 2 R<|Oh h<|Jl4 tv R
 rintro _ aw _ ⟨rfl,v,y⟩
 refine Jn 1 R<|Ob X λaq h Y=>Jk4 [1,3,4] 61 aq v aw 9 tv ?_ ?_
 refine Bk h (λai h=>Je3 R U62 R Z32<|Jc3 R I32 ((g.stp<|T3 d m y).ld 1 R R)<|Jn 1 R<|Ob h λ_ L h=>Jd3 R e L U32 Z31 ?_) (λai h=>Jn 1 R<|Je4 R<|Jn 2 R<|Je4 R<|Jn 1 R<|Je4 R<|Jn 2 R<|Oh h<|Jl4 tv R)
 obtain⟨_,_,_,ac⟩:=(e.stp (T7 k a b c d m y)).gSl L
 exact Jc3 R I31 ac<|Jn 1 R<|Ob h λ_ al h=>Jw3 R call181 (nY (J:=Mk v) Gct al)<|Kb λ_ _ _=>Tv<|Jn 2 R<|Oh h<|Jv1 _ tv ⟨R,_,Fct⟩<|KM R
 rintro _ _ _ ⟨rfl,x,_⟩
 refine have h:=Y;Jd ?_
 refine Bk h (λaj h=>Jy R<|Js<|Jz<|Jp<|Jg3 R<|wr2 F o q.len_le ▸ ?_) (λaj h=>Jx R<|Jf3 R<|Ju<|Ja1<|Jw<|Jw ?_)
 cases h
 exact Ja2 ⟨x,f+1,R,Fct,nxz F,nxm o,G⟩ R
 cases h
 obtain rfl:=EU G
 exact have h:=yL E;Ja1 (Jr2<|Jw<|Jb2 (l:=[.tmp 2]) results123 (Jq2 R R) R<|Oh h<|⟨x,R,Fct⟩)
 rintro _ _ ⟨Q,rfl,_,rfl⟩
 exact have h:=yI E;Jp (Jf3 R<|Ju<|Jb2 (l:=[.tmp 2]) results123 (Jq2 R R) R<|Oh h<|⟨Q,R,Fct⟩)
theorem qi (n:Nat):∀{w:World}{J:Col}{X V T Q Y O S W P U}{p0:l7Game}{N ak}{p1:VB}(ax:Rd Ri J w 0 X V p0.owner) (ay:Rd Ri J w 0 T Q p0.prio) (az:Rd Rs J w 0 Y O p0.next) (aA:Rd Rs J w 0 S W p0.prev) (aB:Rd Ri J w 0 P U p0.pick) (aC:Rd Rp.bool J w 0 N ak p1){r:VB}(h:kO n p0 p1=some r),Ret prog 205 [.agg #[.slice X p0.owner.length V,.slice T p0.prio.length Q,.slice Y p0.next.length O,.slice S p0.prev.length W,.slice P p0.pick.length U],.slice N p1.length ak] w (Pvs EQ 4 J w r):=by
 induction n with
 |zero=>
  intro w J X V T Q Y O S W P U p0 N ak p1 ax ay az aA aB aC r h
  cases h
 |succ n bA=>
  intro w J X V T Q Y O S W P U p0 N ak p1 ax ay az aA aB aC r h
  have h:jv (kO n) p0 p1=some r:=h
  unfold jv at h
  refine Jp3 J func205 R ntmps205 R λdZ=>Jj3<|Jx3 J 2 R λ_ _ bX y av=>Tv<|Jb 1 R<|Jj3<|Jg4 tv R (Jh4 (haE av.cells) I204 Z204 R)<|Jn 1 R<|Ob h λL db h=>?_
  have cu:=ax.stp y
  have aw:=ay.stp y
  have cx:=az.stp y
  have cz:=aA.stp y
  have cF:=aB.stp y
  have Z:=aC.stp y
  refine Jw3 R call222 (yZ (J:=Mk bX) (p0:=p0) Gct Gct Gct Gct Gct Gct db) ?_
  rintro _ _ ⟨_,rfl,b8⟩
  obtain⟨bT,g,_⟩:=Ji b8 3 R
  refine Tv<|Jb 1 R<|Jl3 1 R<|Js3 R U129 R R<|Ob h λs dc h=>Jl1 (J:=bT) (E:=EQ) (z:=(false:Bool)) 5 R R R R R R R Y129 cI R R R R R (λ_ _ _=>R) (Jv2 dc) λv x _ aN i _=>Tv<|Jb 1 R<|Jq<|Jf3 R ?_
  revert h
  cases d4:decide (L<0)
  refine JF λh=>Jy R<|Js<|Jp<|Jl3 1 R<|Jf R (uf R R R (by decide))<|Jb 1 R<|Jl3 1 R<|Js3 R U129 R R<|Ob h λal dd h=>Jl1 (J:=aN) (E:=EQ) (z:=(false:Bool)) 6 R R R R R R R Y129 cI R R R R R (λ_ _ _=>R) (Jv2 dd) λaW aV bJ ap j cs=>Tv<|Jb 1 R<|Jq<|Jf3 R<|Ob h λbD c4 cR=>?_
  clear h
  refine Jt3 [1,2,6,7,8] (λd e b=>∃c,∃ai:VB,e=d/\Stp [6] ap bJ c b/\Oc EQ 4 c b 6 aW aV ai/\al.length=ai.length/\bD=EW ai) ?_ ?_
  refine Jv<|Ju3 [1,2,5,6,7,8] (λa d e b=>∃c E,∃H:VB,e=(9,vi E)::d/\Stp [6] ap bJ c b/\Oc EQ 4 c b 6 aW aV H/\al.length=H.length/\0<=E/\ES ((p1.length:Int)-E)=a/\cntM (lC p0 p1 L) a E H=some bD) ⟨_,_,⟨ap,0,al,R,Jo3,cs,R,(by decide),(by simp),c4⟩,(KM R)⟩ ?_
  rintro a _ dD ⟨aO,E,H,rfl,aU,a7,aJ,bl,ac,h⟩
  rcases a with _|a
  have ag:=h;obtain⟨du,h⟩:=exq ag
  have aF:=dcf ac
  refine Jq<|Jl3 2 R<|Js3 R U129 R R<|Jb 1 R<|Jx2 R aF<|Jc1<|Jt<|Jt ?_
  cases h
  have h:=ag
  refine Jb1 ?_
  cases h
  exact Jw1 _ ⟨aO,H,R,Fct,a7,aJ,R⟩<|KM R
  obtain⟨du,h,ag⟩:=BI h;unfold lC at h
  have aF:=dct ac
  refine Jq<|Jl3 2 R<|Js3 R U129 R R<|Jb 1 R<|Jw2 R aF<|Js<|Jp<|Jq<|Jv<|Jm3 4 R<|Ob h λdJ bq h=>Jd3 R Z bq U129 Z4<|Jc3 R I4 ((Z.stp<|T4 g i j aU).gBool bq)<|Jn 1 R<|Ob h λdy h cS=>Jk4 [1,2,5,6,7,8,9,39,40] 53 dy aO dD 8 tv ?_ ?_
  revert h
  cases d7:dJ
  refine JF λh=>Jn 1 R<|Je4 R<|Jn 2 R<|Je4 R<|Jn 3 R ?_
  cases h
  exact Jl4 tv R
  have aP:=(T4 g i j aU)
  refine JT λh=>Je3 R U204 R Z31<|Jc3 R I31 ((av.stp aP).ld 1 R R)<|Jn 1 R<|Ob h λ_ br h=>Jd3 R aw br U31 Z2<|Jc3 R I2 ((aw.stp aP).gInt br)<|Jn 3 R ?_
  cases h
  exact Jl4 tv R
  rintro _ _ _ ⟨rfl,b2,_⟩
  have h:=cS
  refine Ob h λ_ de h=>Jf R (Jg2 a7.rdc de U129 Z4 R R aJ R)<|Ob h λbL bv h=>Jk1 (J:=b2) (E:=EQ) 6 [] R R R R R R R R Z4 R R R R Fct bv λ_ b3 _ cv=>Tv<|?_
  have c0:al.length=bL.length:=aJ.trans (Ju2 bv).2.2.2.symm
  refine Jo<|Jz<|Jp<|Jg3 R<|wr2 bl ac Z.len_le ▸ ?_
  cases h
  exact Ja2 ⟨b3,E+1,bL,R,Fct,cv,c0,nxz bl,nxm ac,ag⟩ R
  rintro _ _ ⟨b1,ai,rfl,t,ct,cZ,rfl⟩
  have h:=yI cR
  refine Jp<|Jl3 1 R ?_
  have a8:=av.stp (T4 g i j t)
  refine Jg4 tv R (Jh4 (haE a8.cells) I204 Z204 R)<|Jn 3 R<|Ob h λ_ df h=>?_
  have a9:=cu.stp (T4 g i j t)
  have ba:=aw.stp (T4 g i j t)
  have bb:=cx.stp (T4 g i j t)
  have bc:=cz.stp (T4 g i j t)
  have bd:=cF.stp (T4 g i j t)
  have be:=Z.stp (T4 g i j t)
  refine Jw3 R call224 (Ret.cast (by simp only[cZ,List.cons_append,List.nil_append])<|pa (J:=Mk b1) (p0:=p0) (Jn3 a9) (Jn3 ba) (Jn3 bb) (Jn3 bc) (Jn3 bd) (Jn3 be) (Jn3 ct.rdc) df) ?_
  rintro _ _ ⟨_,dO,dR,rfl,cc,cw⟩
  obtain⟨b4,u,dn⟩:=Ji cc 7 R
  refine Tv<|Ob h λdK dg h=>?_
  have G:=be.stp u
  refine Jw3 R call223 (sf (J:=Mk b4) Gct (Jn3 (cw.mx cQ dn R (R:7+2=9)).rdc) dg) ?_
  rintro _ _ ⟨_,dP,dN,rfl,cd,cy⟩
  obtain⟨b5,o,dp⟩:=Ji cd 10 R
  refine Tv<|?_
  have bf:=cy.mx cQ dp R (R:10+2=12)
  refine Jb 1 R<|Jj3 ?_
  have bg:=a8.stp (u.tr o)
  refine Jg4 tv R (Jh4 (haE bg.cells) I204 Z204 R)<|Jn 1 R<|Ob h λdL dh h=>?_
  have cA:=a9.stp (u.tr o)
  have cB:=ba.stp (u.tr o)
  have cC:=bb.stp (u.tr o)
  have cD:=bc.stp (u.tr o)
  have cE:=bd.stp (u.tr o)
  refine Jw3 R call205 (bA (J:=Mk b5) (p0:=p0) Gct Gct Gct Gct Gct Gct dh) ?_
  rintro _ _ ⟨_,dU,dX,rfl,ce,cG⟩
  obtain⟨b6,k,dq⟩:=Ji ce 13 R
  refine Tv<|?_
  have bh:=cG.mx cQ dq R (R:13+2=15)
  refine Jb 1 R<|Jl3 1 R<|Js3 R U129 R R<|Ob h λam di h=>Jl1 (J:=b6) (E:=EQ) (z:=(false:Bool)) 16 R R R R R R R Y129 cI R R R R R (λ_ _ _=>R) (Jv2 di) λaY aX bK aq f cf=>Tv<|Jb 1 R<|Jf3 R<|Jq<|Jf3 R<|Ob h λbE c1 cH=>?_
  clear h
  refine Jt3 [1,2,6,7,12] (λd e b=>∃c,∃B:Bool×VB,e=(13,.bool B.1)::d/\Stp [16] aq bK c b/\Oc EQ 4 c b 16 aY aX B.2/\am.length=B.2.length/\bE=EW B) ?_ ?_
  refine Jv<|Ju3 [1,2,6,7,10,11,12] (λa d e b=>∃c q,∃p:Bool×VB,e=(13,.bool p.1)::(14,vi q)::d/\Stp [16] aq bK c b/\Oc EQ 4 c b 16 aY aX p.2/\am.length=p.2.length/\0<=q/\ES ((p1.length:Int)-q)=a/\cntM (ju L dK dL) a q p=some bE) ⟨_,_,⟨aq,0,(false,am),R,Jo3,cf,R,(by decide),(by simp),c1⟩,(KM R)⟩ ?_
  rintro a _ dA ⟨aK,q,p,rfl,aQ,aZ,aG,cT,bi,h⟩
  rcases a with _|a
  have ad:=h;obtain⟨dr,h⟩:=exq ad
  have A:=dcf bi
  refine Jq<|Jl3 2 R<|Js3 R U129 R R<|Jb 1 R<|Jx2 R A<|Jc1<|Jt<|Jt ?_
  cases h
  have h:=ad
  refine Jb1 ?_
  cases h
  exact Jw1 _ ⟨aK,(p.1,p.2),R,Fct,aZ,aG,R⟩<|KM R
  obtain⟨dr,h,ad⟩:=BI h;unfold ju at h
  have A:=dct bi
  refine Jq<|Jl3 2 R<|Js3 R U129 R R<|Jb 1 R<|Jw2 R A<|Js<|Jp<|Jq<|Jv<|Jl3 4 R<|Ob h λdM bs h=>Jd3 R bf.rdc bs U129 Z4<|Jc3 R I4 ((bf.stp<|T3 k f aQ).rdc.gBool bs)<|Jn 1 R<|Ob h λdz h cJ=>Jk4 [1,2,6,7,10,11,12,13,14,74,75] 88 dz aK dA 8 tv ?_ ?_
  revert h
  cases d0:dM
  refine JF λh=>Jn 3 R<|Je4 R<|Jn 4 R ?_
  cases h
  exact Jl4 tv R
  refine JT λh=>Jn 2 R<|Ob h λ_ bt h=>Jd3 R bh.rdc bt U129 Z4<|Jc3 R I4 ((bh.stp<|f.tr aQ).rdc.gBool bt)<|Jn 2 R<|Jf R (zI R R U4 R)<|Jn 1 R ?_
  cases h
  exact Jl4 tv R
  rintro _ _ _ ⟨rfl,bP,_⟩
  have h:=cJ
  refine Ob h λ_ dj h=>Jf R (Jg2 aZ.rdc dj U129 Z4 R R aG R)<|Ob h λbM bw h=>Jk1 (J:=bP) (E:=EQ) 16 [] R R R R R R R R Z4 R R R R Fct bw λdB bQ _ a0=>Tv<|?_
  have bm:am.length=bM.length:=aG.trans (Ju2 bw).2.2.2.symm
  refine Jd<|Jm3 2 R<|Ob h λbB h cK=>Jk4 [1,2,6,7,10,11,12,13,14] 96 bB bQ dB 5 tv ?_ ?_
  revert h
  cases d1:p.1
  refine JF λh=>Jn 2 R<|Ob h λ_ bu h=>Jf R (Jg2 a0.rdc bu U129 Z4 R R bm R)<|Jc3 R I4 (a0.rdc.gBool bu)<|Jn 1 R ?_
  cases h
  exact Jl4 tv R
  refine JT λh=>Jn 3 R<|Je4 R<|Jn 1 R ?_
  cases h
  exact Jl4 tv R
  rintro _ _ _ ⟨rfl,bR,_⟩
  have h:=cK
  refine Jc 1 R<|Jz<|Jp<|Jg3 R ?_
  have c5:ET .i64 (q+1)=q+1:=wr1 cT (Jn2 A) G.len_le
  rw[c5]
  have A:=Jn2 A
  cases h
  exact Ja2 ⟨bR,q+1,(bB,bM),R,Fct,Fct,bm,by omega,by omega,ad⟩ R
  rintro _ bG ⟨M,B,rfl,m,cg,cU,rfl⟩
  have h:=yI cH
  refine Jp<|Jq<|Jf3 R ?_
  revert h
  cases d2:(!B.1)
  refine JF λh=>Jy R<|Js<|Jp<|Jj3 ?_
  have a2:=bg.stp (T3 k f m)
  refine Jg4 tv R (Jh4 (haE a2.cells) I204 Z204 R)<|Jn 4 R<|Ob h λdF c7 h=>?_
  have ci:=cA.stp (T3 k f m)
  have cj:=cB.stp (T3 k f m)
  have ck:=cC.stp (T3 k f m)
  have cl:=cD.stp (T3 k f m)
  have cm:=cE.stp (T3 k f m)
  have a3:=G.stp (T4 o k f m)
  refine Jw3 R call224 (Ret.cast (by simp only[cU,List.cons_append,List.nil_append])<|pa (J:=Mk M) (p0:=p0) (Jn3 ci) (Jn3 cj) (Jn3 ck) (Jn3 cl) (Jn3 cm) (Jn3 a3) (Jn3 cg.rdc) c7) ?_
  rintro _ _ ⟨_,dY,dV,rfl,b9,cn⟩
  obtain⟨aM,aR,dk⟩:=Ji b9 17 R
  refine Tv<|Jb 1 R<|Jq<|Js1 (J:=aM) [2] none [(1,2),(2,2),(0,0),(3,1),(4,1),(5,2)] [] (by kernel_rfl) (by kernel_rfl) λ_ ar=>Jn 2 R<|Jg R (Jh4 (haC (a2.stp<|aR.tr ar).cells R) I204 Z204 R)<|Ob h λ_ c8 h=>?_
  have co:=a3.stp (aR.tr ar)
  have a4:=(cn.mx cQ dk R (R:17+2=19)).stp ar
  refine Jw3 R call223 (sf (J:=Mk aM) Gct Gct c8) ?_
  rintro _ _ ⟨_,dT,dQ,rfl,ca,cp⟩
  obtain⟨bW,au,dl⟩:=Ji ca 20 R
  refine⟨(au.cl R),Ob h λdG c9 h=>Jw3 R call205 (bA (J:=Mk bW) (p0:=p0) Gct Gct Gct Gct Gct (Jn3 (cp.mx cQ dl R (R:20+2=22)).rdc) c9) ?_⟩
  rintro _ bH ⟨_,dW,dS,rfl,cb,cq⟩
  obtain⟨an,aS,dm⟩:=Ji cb 23 R
  refine⟨((au.tr aS).cl R),?_⟩
  have a5:=cq.mx cQ dm R (R:23+2=25)
  refine Jn 1 R<|Jt1<|Jd<|Jq<|Jf3 R<|Ob h λbC c3 cN=>?_
  clear h
  refine Jt3 [6] (λd e b=>∃c,∃ah:VB,e=d/\Stp [5] an bH c b/\Oc EQ 4 c b 5 v x ah/\s.length=ah.length/\bC=EW ah) ?_ ?_
  refine Jv<|Ju3 [1,6,7,16,17] (λa d e b=>∃c D,∃I:VB,e=(18,vi D)::d/\Stp [5] an bH c b/\Oc EQ 4 c b 5 v x I/\s.length=I.length/\0<=D/\ES ((p1.length:Int)-D)=a/\cntM (lE L dF dG) a D I=some bC) ⟨_,_,⟨an,0,s,R,Jo3,Fct,R,(by decide),(by simp),c3⟩,(KM R)⟩ ?_
  rintro a _ bI ⟨ao,D,I,rfl,aT,a6,aI,bk,ab,h⟩
  rcases a with _|a
  have af:=h;obtain⟨dt,h⟩:=exq af
  have aE:=dcf ab
  refine Jq<|Jl3 2 R<|Js3 R U129 R R<|Jb 1 R<|Jx2 R aE<|Jc1<|Jt<|Jt ?_
  cases h
  have h:=af
  refine Jb1 ?_
  cases h
  exact Jw1 _ ⟨ao,I,R,Fct,a6,aI,R⟩<|KM R
  obtain⟨dt,h,af⟩:=BI h;unfold lE at h
  have aE:=dct ab
  refine Jq<|Jl3 2 R<|Js3 R U129 R R<|Jb 1 R<|Jw2 R aE<|Js<|Jp<|Jq<|Jv<|Jm3 4 R<|Ob h λdH bo h=>Jd3 R a5.rdc bo U129 Z4<|Jc3 R I4 ((a5.stp aT).rdc.gBool bo)<|Jn 1 R<|Ob h λdx h cO=>Jk4 [1,6,7,16,17,18,134,135] 149 dx ao bI 9 tv ?_ ?_
  revert h
  cases d5:dH
  refine JF λh=>Jn 2 R<|Ob h λdI bp h=>Jd3 R a4.rdc bp U129 Z4<|Jc3 R I4 ((a4.stp<|T3 au aS aT).rdc.gBool bp)<|Jn 1 R<|Ob h λdw h cP=>Jk4 [1,6,7,16,17,18,134,135,140,141,142,143,144,145] 148 dw ao bI 3 tv ?_ ?_
  revert h
  cases d6:dI
  refine JF λh=>Jn 3 R ?_
  cases h
  exact Jl4 tv R
  refine JT λh=>Jn 3 R ?_
  cases h
  exact Jl4 tv R
  rintro _ _ _ ⟨rfl,_,_⟩
  have h:=cP
  refine Jn 1 R ?_
  cases h
  exact Jv1 _ tv ⟨R,_,Fct⟩<|KM R
  refine JT λh=>Jn 3 R<|Je4 R<|Jn 5 R ?_
  cases h
  exact Jl4 tv R
  rintro _ _ _ ⟨rfl,bZ,_⟩
  have h:=cO
  refine Ob h λ_ da h=>Jf R (Jg2 a6.rdc da U129 Z4 R R aI R)<|Ob h λbO bz h=>Jk1 (J:=bZ) (E:=EQ) 5 [] R R R R R R R R Z4 R R R R Fct bz λ_ b0 _ cr=>Tv<|?_
  have cY:s.length=bO.length:=aI.trans (Ju2 bz).2.2.2.symm
  refine Jo<|Jz<|Jp<|Jg3 R<|wr2 bk ab co.len_le ▸ ?_
  cases h
  exact Ja2 ⟨b0,D+1,bO,R,Fct,cr,cY,nxz bk,nxm ab,af⟩ R
  rintro _ _ ⟨bY,ah,rfl,_,_,cX,rfl⟩
  have h:=yI cN
  refine Jp<|Jf3 R<|Ju<|Jb2 (l:=[.tmp 4]) results205 (Jq2 R R) R ?_
  cases h
  exact⟨(λF=>ren [(5,2)]<|bY F),v,x,(by simp only[cX]),Fct,Fct⟩
  refine JT λh=>Jx R<|Jq<|Jf3 R<|Ob h λbF c2 cL=>?_
  clear h
  refine Jt3 [6] (λd e b=>∃c,∃aj:VB,e=d/\Stp [5] M bG c b/\Oc EQ 4 c b 5 v x aj/\s.length=aj.length/\bF=EW aj) ?_ ?_
  refine Jv<|Ju3 [1,6,7] (λa d e b=>∃c C,∃K:VB,e=(15,vi C)::d/\Stp [5] M bG c b/\Oc EQ 4 c b 5 v x K/\s.length=K.length/\0<=C/\ES ((p1.length:Int)-C)=a/\cntM (lD p1 L) a C K=some bF) ⟨_,_,⟨M,0,s,R,Jo3,Fct,R,(by decide),(by simp),c2⟩,(KM R)⟩ ?_
  rintro a _ dC ⟨aL,C,K,rfl,b7,a1,aH,bj,aa,h⟩
  rcases a with _|a
  have ae:=h;obtain⟨ds,h⟩:=exq ae
  have aD:=dcf aa
  refine Jq<|Jl3 2 R<|Js3 R U129 R R<|Jb 1 R<|Jx2 R aD<|Jc1<|Jt<|Jt ?_
  cases h
  have h:=ae
  refine Jb1 ?_
  cases h
  exact Jw1 _ ⟨aL,K,R,Fct,a1,aH,R⟩<|KM R
  obtain⟨ds,h,ae⟩:=BI h;unfold lD at h
  have aD:=dct aa
  refine Jq<|Jl3 2 R<|Js3 R U129 R R<|Jb 1 R<|Jw2 R aD<|Js<|Jp<|Jq<|Jv<|Jm3 4 R<|Ob h λdE bn h=>Jd3 R G bn U129 Z4<|Jc3 R I4 ((G.stp<|T5 o k f m b7).gBool bn)<|Jn 1 R<|Ob h λdv h cM=>Jk4 [1,6,7,15,105,106] 114 dv aL dC 3 tv ?_ ?_
  revert h
  cases d3:dE
  refine JF λh=>Jn 3 R ?_
  cases h
  exact Jl4 tv R
  refine JT λh=>Jn 3 R ?_
  cases h
  exact Jl4 tv R
  rintro _ _ _ ⟨rfl,bU,_⟩
  have h:=cM
  refine Ob h λ_ c6 h=>Jf R (Jg2 a1.rdc c6 U129 Z4 R R aH R)<|Ob h λbN bx h=>Jk1 (J:=bU) (E:=EQ) 5 [] R R R R R R R R Z4 R R R R Fct bx λ_ bV _ ch=>Tv<|?_
  have cW:s.length=bN.length:=aH.trans (Ju2 bx).2.2.2.symm
  refine Jo<|Jz<|Jp<|Jg3 R<|wr2 bj aa G.len_le ▸ ?_
  cases h
  exact Ja2 ⟨bV,C+1,bN,R,Fct,ch,cW,nxz bj,nxm aa,ae⟩ R
  rintro _ _ ⟨bS,aj,rfl,_,_,cV,rfl⟩
  have h:=yI cL
  refine Jp<|Jf3 R<|Ju<|Jw<|Jb2 (l:=[.tmp 4]) results205 (Jq2 R R) R ?_
  cases h
  exact⟨(λF=>ren [(5,2)]<|bS F),v,x,(by simp only[cV]),Fct,Fct⟩
  refine JT λh=>Jx R<|Jf3 R<|Ju<|Jw<|Jb2 (l:=[.tmp 4]) results205 (Jq2 R R) R ?_
  cases h
  exact⟨(λF=>ren [(5,2)]<|aN F),v,x,R,Fct,Fct⟩
theorem sd {p0:Sig}{j g k i}{p1:Word}(C:Rd Ri J w 0 j g p1.Stem) (D:Rd Ri J w 0 k i p1.Loop){r:Bool}(h:lu p0 p1=some r):Ret prog 82 [.agg #[vi p0.In,vi p0.Out],.agg #[.slice j p1.Stem.length g,.slice k p1.Loop.length i]] w (Pvb J w r):=by
 refine Jp3 J func82 R ntmps82 R λE=>Jj3<|Jx3 J 2 R λ_ _ n _ s=>Tv<|Jx3 n 3 R λ_ _ d q t=>Tv<|Jb 1 R<|Jq (Xn d [2,3] [0,4,8,9,12,16,19,23,26] λ_ f=>have m:=s.stp (q.tr f);Jg R (Jh4 (haC m.cells R) I28 Z28 R) (Ob h λF z h=>Jw3 R call91 (ic (J:=Mk d) (p0:=p0) z)<|Kb λB c a=>⟨(a.cl R),Jn 1 R<|Ob h λA h u=>Jk4 [4] 12 A c B 5 (a.cl R) ?_ ?_⟩))
 exact Bk h (λv h=>Jf4 R<|Jf4 R<|Je4 R<|Je4 R<|Jn 1 R<|Oh h<|Jv1 _ (a.cl R) ⟨R,_,Jo3⟩<|KM R) (λv h=>Jg R (Jh4 (haC (t.stp f).cells R) I44 Z44 R)<|Jg R (Jh4 (haC m.cells R) I28 Z28 R)<|Ob h λ_ x h=>Jw3 R call88 (eQ (J:=Mk c) (p0:=p0) x)<|Ki λ_ o b=>⟨((a.tr b).cl R),Ob h λ_ y h=>Jw3 R call135 (ww (J:=Mk o) (p0:=p1) Gct Gct y)<|Kb λ_ _ e=>⟨((T3 a b e).cl R),Jn 1 R<|Oh h<|Jv1 _ ((T3 a b e).cl R) ⟨R,_,Fct⟩<|KM R⟩⟩)
 rintro _ _ _ ⟨rfl,p,_⟩
 exact have h:=u;Jn 1 R (Jt1<|Jd<|Ju<|Jb2 (l:=[.tmp 4]) results82 (Jq2 R R) R<|Oh h<|⟨p,R,Fct⟩)
theorem rZ {y D}{p0:VI}{z E}{p1:VI}(u:Rd Ri J w 0 y D p0) (ak:Rd Ri J w 0 z E p1){r:VI}(h:oC p0 p1=some r):Ret prog 87 [.slice y p0.length D,.slice z p1.length E] w (Pvs E6 2 J w r):=by
 refine Jp3 J func87 R ntmps87 R λal=>Jf3 R<|Jj3<|Jc4 J E6 2 R Y31 bG R λO N F s M X=>Tv<|Jb 1 R<|Jq<|Jl3 1 R<|Js3 R U31 R R<|Jb 1 R<|Ob h λC ac aa=>Jx1 (λd a=>∃b,∃p:VI,∃m j,d=[(5,.slice m p.length j)]/\Stp [2] s F b a/\Oc E6 2 b a 2 m j p/\C=EW p) (Jv<|Ju3 [1,11,12] (λg q d a=>∃b c,∃i:VI,∃f e,d=(5,.slice f i.length e)::(13,vi c)::q/\Stp [2] s F b a/\Oc E6 2 b a 2 f e i/\0<=c/\ES ((p0.length:Int)-c)=g/\cntM (lS p0 p1) g c i=some C) ⟨_,_,⟨s,0,([]:VI),O,N,R,Jo3,X,(by decide),(by simp),ac⟩,(KM R)⟩ ?_) ?_
 rintro g _ _ ⟨x,c,i,f,e,rfl,L,U,A,o,h⟩
 rcases g with _|g
 exact Jf3 R<|Jq<|Jx2 R (dcf o)<|Jc1<|Jt<|Jt<|Jb1<|Oh h<|Jw1 _ ⟨x,i,f,e,R,Fct,U,R⟩<|KM R
 refine Ob h λo5 h ab=>Jf3 R<|Jq<|Jw2 R (dct o)<|Js<|Jp<|Jq<|Jv<|Jj3<|Ob h λah B h=>Jd3 R u B U31 Z2<|Jc3 R I2 ((u.stp<|M.tr L).gInt B)<|Jb 1 R<|Jl3 2 R<|Ob h λam ae h=>Jw3 R call146 (jx (J:=Mk x) Gct ae) ?_
 rintro _ ag ⟨_,rfl,S⟩
 refine Im S 3 R (λt _ _=>Tv<|Jb 5 R<|Jf3 R<|Ob h λv h Z=>Jt3 [1,11,12,13] (λq d a=>∃b k n,d=(5,.slice k v.length n)::q/\Stp [2] t ag b a/\Oc E6 2 b a 2 k n v) ?_ ?_)
 exact Bk h (λad h=>Jy R<|Js<|Oh h<|Jw1 _ ⟨t,f,e,R,Jo3,Fct⟩<|KM R) (λad h=>Jx R<|Jm3 2 R<|Ji4 t 5 [ah] R Y31 bG R λai aj _ H _ W=>Tv<|Ob h λ_ af h=>Jd4 H E6 2 [] R Y31 bG R Fct (Sl.srcP (bO _) W.rdc) bJ af R λQ P _ I _ Y=>Tv<|Jc 1 R<|Oh h<|Jw1 _ ⟨I,Q,P,R,Fct,Y⟩<|KM R)
 rintro _ _ ⟨G,k,n,rfl,_,V⟩
 refine have h:=Z;Jz (Jp<|Jg3 R<|wr2 A o u.len_le ▸ ?_)
 cases h
 exact Ja2 ⟨G,c+1,v,k,n,R,Fct,V,nxz A,nxm o,ab⟩ R
 rintro _ _ ⟨K,p,m,j,rfl,_,T,rfl⟩
 exact have h:=yI aa;Jp (Jf3 R<|Ju<|Jb2 (l:=[.tmp 4]) results87 (Jq2 R R) R<|Oh h<|⟨K,m,j,R,Fct,T⟩)
end
end Go.Proofs.YtfombamjdkihnaaGreat
