/- The walks, part 10. By program. -/
import Derived.Test.YtleekpaohfpooaaGreatFns9MD
set_option linter.unusedVariables false
set_option linter.unusedSimpArgs false
open Go.Wk.Ep renaming fz → Dw, own → Dp
open Int renaming toNat → Dq
open Go.IntKind renaming wrap → Dr
open Option.some renaming inj → Ds
open Go.Wk.Ow renaming nil → Dt
open Go.Wk.Sl renaming srcP → Du
open Sum renaming inr → Dv
namespace Go.Proofs.YtleekpaohfpooaaGreat
open Tryz
open Go Go.Wk Go.Proofs
set_option maxRecDepth 100000
set_option maxHeartbeats 1000000
section
variable {w:World}{J:Col}
theorem qS {p0:Sig}{c d}{p1:VC}(k:Rd Clause.rp J w 0 c d p1){r:Bool}(h:jq p0 p1=some r):Ret prog 63 [.agg #[vi p0.In,vi p0.Out],.slice c p1.length d] w (Pvb J w r):=by
 unfold jq at h
 refine Jl3 J func63 R ntmps63 R λm=>Je [1,2] R<|Jt3 J 2 R λt q a b j=>Tv<|Jb 1 R<|Jh3 [2,2,2,2,2,2,1,2,2,2] 1 R<|Jo3 R U29 R R<|Jn 2 R<|Ob h λp h n=>Jg4 [4] 13 p a q [(4,2),(5,2),(6,1),(7,2),(8,2)] [(9,2)] tv ?_ ?_
 revert h
 cases u:decide ((p1.length:Int)<=3)
 refine JF λh=>Jn 2 R<|Ja4 R<|Jn 2 R ?_
 cases h
 exact Jh4 tv R
 refine JT λh=>Jn 1 R<|Jf R (eH (first:=[]) (captured:=[.tmp 2]) R R R ⟨_,R⟩)<|Ob h λA o h=>Js3 R call126 (dM (J:=Mk a) (c1_0:=p0) (Jj3<|k.stp b) (j.map (mp [] 0) R R) o) ?_
 rintro _ z ⟨v,rfl,i⟩
 obtain⟨s,f,x⟩:=Ji i 3 R
 refine Tv<|Jn 2 R ?_
 cases h
 exact Jv1 _ tv ⟨R,_,f.wk R⟩<|KM R
 rintro _ y _ ⟨rfl,e,g⟩
 have h:=n
 refine Jb 1 R<|Ju<|Jb2 (l:=[.tmp 4]) results63 (Jq2 R R) R ?_
 cases h
 exact⟨e,R,(m.stp<|b.tr g)⟩
theorem tf {X W U V}{p0:Arena}{T am}{p1:VP}{p2:Int}(aX:Rd Ri J w 0 X W p0.Owner) (aY:Rd Rs J w 0 U V p0.Next) (ab:Rd Pair.rp J w 0 T am p1){r:Parity×VL×Bool}(h:eh p0 p1 p2=some r):Ret prog 43 [.agg #[.slice X p0.Owner.length W,.slice U p0.Next.length V],.slice T p1.length am,vi p2] w (λa7 a=>∃(b:Col) (ae:Option Addr) (ai:Nat) (af:Option Addr) (aj:Nat) (ag:Option Addr) (ak:Nat) (ah:Option Addr) (al:Nat),a7= .tuple #[.agg #[.slice ae r.1.Arena.Owner.length ai,.slice af r.1.Arena.Next.length aj,.slice ag r.1.Prio.length ak],.slice ah r.2.1.length al,.bool r.2.2]/\Ent J w b a/\Oc E6 2 b a 2 ae ai r.1.Arena.Owner/\Oc (Dw Rs) 37 b a 3 af aj r.1.Arena.Next/\Oc E6 2 b a 4 ag ak r.1.Prio/\Oc (Dw Place.rp) 88 b a 5 ah al r.2.1):=by
 unfold eh at h
 refine Jl3 J func43 R ntmps43 R λaZ=>Je [1,1,1,2,2] R<|Jt3 J 2 R λbc bg ar N aO=>Tv<|Jt3 ar 3 R λbd bm ay B aV=>Tv<|Ju3 ay 4 R X79 R λbe bp aq o aI=>Tv<|Jb 2 R<|Jh3 [2,2,1,1] 1 R<|Jf R (Jj4 [vi p2,.slice none 0 0] R)<|Ju3 aq 5 R zeroValue88 R λY bh n e aJ=>Tv<|Ji4 n 5 R Z88 R aJ R λan f aK=>Tv<|Jd<|Jq<|Je [1,2,2] R ?_
 have Z:=aV.stp (T3 o e f)
 refine Jc3 R I69 (Z.ld 0 R R)<|Jo3 R U69 R R<|Jb 1 R<|Ob h λad a2 a0=>?_
 clear h
 refine Jp3 [3,4,6,9] (λx y a=>∃b,∃m:VI,∃D E,y=x/\Stp [5,6] n an b a/\Oc E6 2 b a 6 D E m/\Bc b a 5 Y 88 [vi p2,.slice D m.length E]/\ad=Dv m) ?_ ?_
 refine Jv<|Jq3 [3,4,6,9,14] (λj x y a=>∃b c,∃k:VI,∃s t,y=(15,vi c)::x/\Stp [5,6] n an b a/\Oc E6 2 b a 6 s t k/\Bc b a 5 Y 88 [vi p2,.slice s k.length t]/\0<=c/\Dq ((p1.length:Int)-c)=j/\cntM ke j c k=some ad) ⟨_,_,⟨n,0,([]:VI),none,0,R,Jk3,Dt,aK,(by decide),(by simp),a2⟩,(KM R)⟩ ?_
 rintro j _ bi ⟨K,c,k,s,t,rfl,O,aa,H,a1,ac,h⟩
 rcases j with _|j
 have u:=h;obtain⟨a6,h⟩:=exq u
 have d:=dcf ac
 refine Jf3 R<|Jq<|Jx2 R d<|Jc1<|Jt<|Jt ?_
 cases h
 have h:=u
 refine Jb1 ?_
 cases h
 exact Jw1 _ ⟨K,k,s,t,R,O.wk R,aa,H,R⟩<|KM R
 obtain⟨a6,h,u⟩:=BI h;unfold ke at h
 have d:=dct ac
 refine Jf3 R<|Jq<|Jw2 R d<|Js<|Jp<|Jq<|Jv<|Jf3 R<|Ja [2,1,2,1,1,2,1] R<|Je3 R U88 R Z37<|Jc3 R I37 (H.ld 1 R R)<|Jn 1 R<|Je4 K 7 [c] R Y37 bS R λbb ba bj av A aN=>Tv<|Ob h λI a4 h=>Jz3 av E6 6 [] R Y37 bS R (aa.stp A) (Du (cc _) aN.rdc) bV a4 R λC F bk L P aP=>Tv<|Je3 R U88 R Z37<|Jv3 L 5 (off:=1) (vc:=[.slice C I.length F]) (cs':=[vi p2,.slice C I.length F]) R Z37 R (H.stp<|A.tr P) R λbl Q aQ=>Tv<|Jo<|Jz<|Jp<|Jg3 R ?_
 have a3:Dr .i64 (c+1)=c+1:=wr1 a1 (Jn2 d) ab.len_le
 rw[a3]
 have d:=Jn2 d
 cases h
 exact Ja2 ⟨L,c+1,I,C,F,R,(T4 O A P Q).wk R,(aP.stp Q),aQ,by omega,by omega,u⟩ R
 rintro _ ao ⟨au,m,D,E,rfl,g,aL,aM,rfl⟩
 have h:=yI a0
 refine Jp<|Je [1,1,2,2,1,2,2,2,1,2,2] R<|Jc4 tv R (Jd4 (haE (aO.stp<|T5 B o e f g).cells) I75 Z75 R)<|Jc4 tv R (Jd4 (haE aM.cells) I88 Z88 R)<|Jf R (eH (first:=[]) (captured:=[.tmp 4]) R R R ⟨_,R⟩)<|Jf R (eH (first:=[]) (captured:=[.tmp 4]) R R R ⟨_,R⟩) ?_
 obtain⟨aw,p,a8⟩:=gD au ao 6
 obtain⟨ax,q,a9⟩:=gD aw ao 3
 have z:=(T8 N B o e f g p q)
 refine Ob h λbq a5 h=>Js3 R call109 (fH (J:=λG=>mp [] 1<|ax G) (p0:=p0) (p1:=(⟨p2,m⟩:Place)) (Jm2 (aX.stp z) (mp [] 1) R R) (Jm2 (aY.stp z) (mp [] 1) R R) (Jm2 ((Sl.st a8 aL.rdc).stp q) (mp [] 1) R R) (Jm2 (ab.stp z) (mp [] 1) R R) ((Bc.fzz a9<|Z.stp<|g.tr p).map (mp [] 1) R R) a5) ?_
 rintro _ bn ⟨bf,az,aF,aE,aC,aA,aG,aB,aD,rfl,aH,aR,aS,aT,aU⟩
 obtain⟨M,S,v,ap⟩:=Jj aH 7 R
 refine Tv<|Jn 3 R<|Ji4 M 4 R Z79 R (aI.stp<|T6 e f g p q S) R λbo i aW=>Tv<|Jb 2 R<|Ju<|Jb2 (l:=[.cell 6 79,.tmp 7,.tmp 8]) results43 (cg R aW I79 Z79 R<|Jq2 R<|Jq2 R R) R ?_
 cases h
 exact⟨(λG=>ren [(9,2),(10,3),(11,4),(12,5)]<|M G),az,aF,aE,aC,aA,aG,aB,aD,R,((aZ.stp<|T10 N B o e f g p q S i).map (ren [(9,2),(10,3),(11,4),(12,5)]) R R),(((aR.mx (bZ _) v R (R:7+2=9)).stp i).map (ren [(9,2),(10,3),(11,4),(12,5)]) R R),(((aS.mxz ap v R (R:7+3=10)).stp i).map (ren [(9,2),(10,3),(11,4),(12,5)]) R R),(((aT.mx (bZ _) v R (R:7+4=11)).stp i).map (ren [(9,2),(10,3),(11,4),(12,5)]) R R),(((aU.mxz ap v R (R:7+5=12)).stp i).map (ren [(9,2),(10,3),(11,4),(12,5)]) R R)⟩
theorem vD {s p u q t v}{p0:Parity}(ak:Rd Ri J w 0 s p p0.Arena.Owner) (al:Rd Rs J w 0 u q p0.Arena.Next) (am:Rd Ri J w 0 t v p0.Prio){r:Answer}(h:mL p0=some r):Ret prog 45 [.agg #[.slice s p0.Arena.Owner.length p,.slice u p0.Arena.Next.length q,.slice t p0.Prio.length v]] w (λav m=>∃(n:Col) (K:Option Addr) (M:Nat) (L:Option Addr) (N:Nat),av= .agg #[.slice K r.Won.length M,.slice L r.Plan.length N]/\Ent J w n m/\Oc E6 2 n m 2 K M r.Won/\Oc E6 2 n m 3 L N r.Plan):=by
 unfold mL at h
 refine Jl3 J func45 R ntmps45 R λH=>Je [1,1] R<|Jt3 J 2 R λaB aJ O f af=>Tv<|Ju3 O 3 R zeroValue85 R λaC aP S e F=>Tv<|Jd<|Jq<|Je [1,1,2] R ?_
 have G:=af.stp e
 refine Jc4 tv R (Jd4 (haE G.cells) I79 Z79 R)<|Ob h λaw aq h=>?_
 have x:=ak.stp (f.tr e)
 have y:=al.stp (f.tr e)
 have z:=am.stp (f.tr e)
 refine Js3 R call116 (sY (J:=Mk S) (p0:=p0) (Jj3 x) (Jj3 y) (Jj3 z) aq) ?_
 rintro _ aK ⟨aE,rfl,Z⟩
 obtain⟨g,c,aI⟩:=Ji Z 4 R
 refine Tv<|Jb 1 R ?_
 revert h
 cases aD:(!aw)
 refine JF λh=>Jy R<|Js<|Jp<|Jq<|Js1 (J:=g) [2] none [(1,2),(0,0),(2,0),(4,0),(3,1),(5,1),(6,1),(7,1)] [] (by kernel_rfl) (by kernel_rfl) λaM d=>Je3 R U79 R Z75 ?_
 have k:=G.stp (c.tr d)
 refine Jg R (Jd4 (haC k.cells R) I79 Z79 R)<|Jg R (Jd4 (haC (k.lds 0 2 R) R) I75 Z75 R)<|Jg R (Jd4 (haC k.cells R) I79 Z79 R)<|Ob h λaS an h=>?_
 have A:=x.stp (c.tr d)
 have B:=y.stp (c.tr d)
 refine Js3 R call118 (vH (J:=Mk g) (p0:=p0.Arena) (Jj3 A) (Jj3 B) an) ?_
 rintro _ aN ⟨aF,ay,ax,rfl,aa,ae⟩
 obtain⟨P,a,ar⟩:=Ji aa 6 R
 refine⟨(a.cl R),Ob h λaT ao h=>?_⟩
 have C:=A.stp a
 have D:=B.stp a
 have E:=z.stp (T3 c d a)
 refine Js3 R call44 (pV (J:=Mk P) (p0:=p0) (Jj3 C) (Jj3 D) (Jj3 E) ao) ?_
 rintro _ aO ⟨aG,az,aA,rfl,ab,ag⟩
 obtain⟨Q,b,au⟩:=Ji ab 9 R
 refine⟨((a.tr b).cl R),Ob h λaU ap h=>Js3 R call117 (te (J:=Mk Q) (p0:=p0) (Jj3<|C.stp b) (Jj3<|D.stp b) (Jj3<|E.stp b) (Jj3 ((ae.mx (bZ _) ar R (R:6+2=8)).stp b).rdc) (Jj3 (ag.mx (bZ _) au R (R:9+2=11)).rdc) ap) ?_⟩
 rintro _ aQ ⟨aH,X,W,V,U,rfl,ac,ah,ai⟩
 obtain⟨o,i,I⟩:=Ji ac 12 R
 refine⟨((T3 a b i).cl R),Ji4 o 3 R Z85 R (F.stp<|T5 c d a b i) R λaR j aj=>⟨((T4 a b i j).cl R),Jt1<|Jd<|Ju<|Jb2 (l:=[.cell 2 85]) results45 (cg R aj isAgg85 Z85 R R) R ?_⟩⟩
 cases h
 exact⟨(λY=>ren [(14,2),(15,3)]<|o Y),X,W,V,U,R,((H.stp<|T8 f e c d a b i j).map (ren [(14,2),(15,3)]) R R),(((ah.mx (bZ _) I R (R:12+2=14)).stp j).map (ren [(14,2),(15,3)]) R R),(((ai.mx (bZ _) I R (R:12+3=15)).stp j).map (ren [(14,2),(15,3)]) R R)⟩
 refine JT λh=>Jx R<|Je [2,1] R<|Jf R (Jj4 [.slice none 0 0,.slice none 0 0] R)<|Ji4 g 3 R Z85 R (F.stp c) R λaL T ad=>Tv<|Jd<|Ju<|Jw<|Jb2 (l:=[.cell 2 85]) results45 (cg R ad isAgg85 Z85 R R) R ?_
 cases h
 exact⟨g,none,0,none,0,R,(H.stp<|T4 f e c T),Dt,Dt⟩
theorem rP {p0:Sig}{aa Z Y X}{p1:Det}{p2:Int}{Q:Int}{F:Int}(O:Rd Rs J w 0 aa Z p1.Next) (aT:Rd Pair.rp J w 0 Y X p1.Pairs){r:VI}(h:kj p0 p1 p2 Q F=some r):Ret prog 50 [.agg #[vi p0.In,vi p0.Out],.agg #[.slice aa p1.Next.length Z,.slice Y p1.Pairs.length X],vi p2,vi Q,vi F] w (Pvs E6 2 J w r):=by
 unfold kj at h
 refine Jl3 J func50 R ntmps50 R λad=>Je [1,1,2] R<|Jt3 J 2 R λbp bI aq n aP=>Tv<|Jt3 aq 3 R λbq bM aw j N=>Tv<|Jb 1 R<|Jq<|Je [1,1,2,2,1,1,1,2,2,2,2,2,2,2,2,2,1,2,2,2,2,2,2,2,2,2,1,1,2,2] R ?_
 have C:=aP.stp j
 refine Jc4 tv R (Jd4 (haE C.cells) I28 Z28 R)<|Ob h λbi a5 h=>Js3 R call82 (nq (J:=Mk aw) (p0:=p0) a5) ?_
 rintro _ bc ⟨bz,rfl,aJ⟩
 obtain⟨T,a,bD⟩:=Ji aJ 4 R
 refine Tv<|Jn 2 R<|Ob h λah h aU=>Jg4 [2,3,4,5,6] 21 ah T bc [(4,1),(5,1),(6,1),(7,2),(8,2)] [(9,2),(10,2),(11,2),(12,2),(13,2),(14,2),(15,2),(16,1),(17,2),(18,2),(19,2),(20,2),(21,2),(22,2),(23,2),(24,2),(25,2),(26,1),(27,1),(28,2),(29,2)] tv ?_ ?_
 revert h
 cases bs:(!bi)
 refine JF λh=>Jc4 tv R (Jd4 (haE (C.stp a).cells) I28 Z28 R)<|Jc4 tv R (Jd4 (haE (N.stp a).cells) I71 Z71 R)<|Ob h λbU a6 h=>Js3 R call119 (wZ (J:=Mk T) (p0:=p0) (p1:=p1) (Jj3<|O.stp<|T3 n j a) (Jj3<|aT.stp<|T3 n j a) a6) ?_
 rintro _ bL ⟨bA,rfl,aK⟩
 obtain⟨bk,aA,bE⟩:=Ji aK 6 R
 refine Tv<|Jn 2 R ?_
 cases h
 exact Jv1 _ tv ⟨R,_,aA.wk R⟩<|KM R
 refine JT λh=>Ja4 R<|Ja4 R<|Ja4 R<|Jn 2 R ?_
 cases h
 exact Jh4 tv R
 rintro _ bd _ ⟨rfl,ar,d⟩
 have h:=aU
 refine Jn 1 R<|Ob h λai h aV=>Jg4 [2,3,4,5,6] 25 ai ar bd [(10,2),(11,2),(12,2)] [(13,2),(14,2),(15,2),(16,1),(17,2),(18,2),(19,2),(20,2),(21,2),(22,2),(23,2),(24,2),(25,2),(26,1),(27,1),(28,2),(29,2)] tv ?_ ?_
 revert h
 cases bt:ah
 refine JF λh=>Jn 3 R ?_
 cases h
 exact Jh4 tv R
 refine JT λh=>Jn 3 R ?_
 cases h
 exact Jh4 tv R
 rintro _ be _ ⟨rfl,au,e⟩
 have h:=aV
 refine Jn 1 R<|Ob h λaj h aW=>Jg4 [2,3,4,5,6] 32 aj au be [(14,2),(15,2),(16,1),(17,2),(18,2),(19,2)] [(20,2),(21,2),(22,2),(23,2),(24,2),(25,2),(26,1),(27,1),(28,2),(29,2)] tv ?_ ?_
 revert h
 cases bu:ai
 refine JF λh=>Jn 1 R<|Je3 R U71 R Z31<|Jc3 R I31 ((N.stp<|T3 a d e).ld 0 R R)<|Jo3 R U31 R R<|Jn 2 R ?_
 cases h
 exact Jh4 tv R
 refine JT λh=>Jn 2 R<|Ja4 R<|Jn 3 R ?_
 cases h
 exact Jh4 tv R
 rintro _ bf _ ⟨rfl,av,g⟩
 have h:=aW
 refine Jn 1 R<|Ob h λak h aX=>Jg4 [2,3,4,5,6] 36 ak av bf [(21,2),(22,2),(23,2)] [(24,2),(25,2),(26,1),(27,1),(28,2),(29,2)] tv ?_ ?_
 revert h
 cases bv:aj
 refine JF λh=>Jn 3 R ?_
 cases h
 exact Jh4 tv R
 refine JT λh=>Jn 3 R ?_
 cases h
 exact Jh4 tv R
 rintro _ bg _ ⟨rfl,U,i⟩
 have h:=aX
 refine Jn 1 R<|Ob h λal h aY=>Jg4 [2,3,4,5,6] 42 al U bg [(25,2),(26,1),(27,1),(28,2),(29,2)] [] tv ?_ ?_
 revert h
 cases bw:ak
 refine JF λh=>Jn 1 R<|Jc4 tv R (Jd4 (haE (C.stp<|T5 a d e g i).cells) I28 Z28 R)<|Ob h λbW a7 h=>Js3 R call46 (eK (J:=Mk U) (p0:=p0) a7) ?_
 rintro _ bN ⟨bB,rfl,aL⟩
 obtain⟨bl,aB,bF⟩:=Ji aL 6 R
 refine Tv<|Jn 2 R ?_
 cases h
 exact Jv1 _ tv ⟨R,_,aB.wk R⟩<|KM R
 refine JT λh=>Jn 1 R<|Ja4 R<|Ja4 R<|Jn 2 R ?_
 cases h
 exact Jh4 tv R
 rintro _ bO _ ⟨rfl,V,o⟩
 have h:=aY
 refine Jd ?_
 revert h
 cases bx:al
 refine JF λh=>Jy R<|Js<|Jp<|Je [1,2] R<|Jy3 V E6 6 R Y37 bS R λaG aF an I v aQ=>Tv<|Jb 1 R<|Jq<|Je [2,1,2,2] R<|Je3 R U28 R Z2 ?_
 have ab:=C.stp (T7 a d e g i o v)
 refine Jc3 R I2 (ab.ld 1 R R)<|Ob h λ_z46 ba h=>Jf R (sw R R R<|vX ba)<|Jb 1 R<|Ob h λ_ a4 h=>?_
 have a1:=jG a4
 refine Ob h λam a3 aZ=>?_
 clear h
 refine Jx1 (λm b=>∃c,∃G:VI,∃A B,m=[(11,.slice A G.length B)]/\Stp [6] I an c b/\Oc E6 2 c b 6 A B G/\am=Dv G) ?_ ?_
 refine Jv<|Jq3 [2,3,4,5,6,46] (λt H m b=>∃c f,∃u:VI,∃s q,m=(11,.slice s u.length q)::(47,vi f)::H/\Stp [6] I an c b/\Oc E6 2 c b 6 s q u/\0<=f/\Dq ((Dr .i64 (1 * 2 ^ (min (Dq p0.Out)<|IntKind.bits IntKind.i64)))-f)=t/\cntM (gM p0 p1 p2 Q F) t f u=some am) ⟨_,_,⟨I,0,([]:VI),aG,aF,R,Jk3,aQ,(by decide),(by simp),a3⟩,(KM R)⟩ ?_
 rintro t _ bQ ⟨K,f,u,s,q,rfl,p,M,ae,D,h⟩
 rcases t with _|t
 have E:=h;obtain⟨bb,h⟩:=exq E
 have P:=dcf D
 refine Jf3 R<|Jq<|Jx2 R P<|Jc1<|Jt<|Jt ?_
 cases h
 have h:=E
 refine Jb1 ?_
 cases h
 exact Jw1 _ ⟨K,u,s,q,R,p.wk R,M,R⟩<|KM R
 obtain⟨bb,h,E⟩:=BI h;unfold gM at h
 have P:=dct D
 refine Jf3 R<|Jq<|Jw2 R P<|Js<|Jp<|Jq<|Jv<|Jf3 R<|Jq<|Js1 (J:=K) [0,2,3] none [(0,2),(2,2),(5,2),(9,2),(13,2),(1,0),(3,2),(4,0),(6,0),(7,1),(8,2),(10,2),(11,2),(12,0),(14,2)] [] (by kernel_rfl) (by kernel_rfl) λbR k=>Je3 R U71 R Z31<|Jn 4 R<|Jg R (Jd2 I31 R R<|hvC ((N.stp<|T9 a d e g i o v p k).ld 0 R R) R)<|Ob h λbX af h=>Jd3 R O af U31 Z37 ?_
 obtain⟨bo,bH,ac,a2⟩:=(O.stp (T11 n j a d e g i o v p k)).gSl af
 refine Jg R (Jd2 I37 R R<|hvC a2 R)<|Jg R (Jd4 (haC (ab.stp<|p.tr k).cells R) I28 Z28 R)<|Ob h λbY a8 h=>Js3 R call46 (eK (J:=Mk K) (p0:=p0) a8) ?_
 rintro _ bh ⟨bC,rfl,aM⟩
 obtain⟨L,x,bG⟩:=Ji aM 7 R
 refine⟨(x.cl R),Jn 2 R<|Ob h λbj ag h=>Jd3 R ac ag U37 Z2<|Jg R (Jd2 I2 R R<|hvC (ac.gInt ag) R)<|Jn 1 R<|Jt1<|Jd<|Ob h λS h a0=>Jp3 [2,3,4,5,6,46,47] (λH m b=>∃c y z,m=(11,.slice y S.length z)::H/\Stp [6] L bh c b/\Oc E6 2 c b 6 y z S) ?_ ?_⟩
 revert h
 cases br:(bj==F)
 refine JF λh=>Jy R<|Js ?_
 cases h
 exact Jw1 _ ⟨L,s,q,R,Jk3,(M.stp<|k.tr x)⟩<|KM R
 refine JT λh=>Jx R<|Ji3 [2,2,1,1,2] 2 R<|Je4 L 9 [f] R Y37 bS R λbn bm bJ ao W aN=>Tv<|Ob h λbZ a9 h=>Jz3 ao E6 6 [] R Y37 bS R (M.stp<|T3 k x W) (Du (cc _) aN.rdc) bV a9 R λaH aE bK ap az aO=>Tv<|Jc 1 R ?_
 cases h
 exact Jw1 _ ⟨ap,aH,aE,R,(W.tr az).wk R,aO⟩<|KM R
 rintro _ bT ⟨ay,y,z,rfl,aD,aS⟩
 have h:=a0
 refine Jz<|Jp<|Jg3 R<|wr2 ae D a1 ▸ ?_
 cases h
 exact Ja2 ⟨ay,f+1,S,y,z,R,(T4 p k x aD).wk R,aS,nxz ae,nxm D,E⟩ R
 rintro _ bP ⟨ax,G,A,B,rfl,aC,aR,rfl⟩
 have h:=yI aZ
 refine Jp<|Jf3 R<|Ju<|Jb2 (l:=[.tmp 10]) results50 (Jq2 R R) R ?_
 cases h
 exact⟨(λaI=>ren [(6,2)]<|ax aI),A,B,R,((ad.stp<|T10 n j a d e g i o v aC).map (ren [(6,2)]) R R),(aR.map (ren [(6,2)]) R R)⟩
 refine JT λh=>Jx R<|Jf3 R<|Ju<|Jw<|Jb2 (l:=[.tmp 10]) results50 (Jq2 R R) R ?_
 cases h
 exact⟨V,none,0,R,(ad.stp<|T8 n j a d e g i o),Dt⟩
theorem lQ {p0:Sig}{K I G H}{p1:Det}(x:Rd Rs J w 0 K I p1.Next) (ak:Rd Pair.rp J w 0 G H p1.Pairs){r:Bool}(h:kU p0 p1=some r):Ret prog 123 [.agg #[vi p0.In,vi p0.Out],.agg #[.slice K p1.Next.length I,.slice G p1.Pairs.length H]] w (Pvb J w r):=by
 unfold kU at h
 refine Jl3 J func123 R ntmps123 R λy=>Je [1,1,2] R<|Jt3 J 2 R λaH a0 X g ai=>Tv<|Jt3 X 3 R λaI a5 Z e n=>Tv<|Jb 1 R<|Je [2,1,2,2] R<|Je3 R U71 R Z31<|Jc3 R I31 (n.ld 0 R R)<|Jo3 R U31 R R<|Jb 1 R<|Jq<|Je [1,1,2,2,2,1,2,2] R ?_
 have N:=ai.stp e
 refine Jc4 tv R (Jd4 (haE N.cells) I28 Z28 R)<|Ob h λaA aq h=>Js3 R call58 (jY (J:=Mk Z) (p0:=p0) aq) ?_
 rintro _ ay ⟨aO,rfl,ad⟩
 obtain⟨C,a,aT⟩:=Ji ad 4 R
 refine Tv<|Jn 2 R<|Ob h λT h al=>Jg4 [2,3,5] 17 T C ay [(4,2),(5,1),(6,2),(7,2)] [] tv ?_ ?_
 revert h
 cases aK:(!aA)
 refine JF λh=>Jn 1 R<|Ob h λa9 ar h=>Js3 R C59 (dD (J:=Mk C) ar) ?_
 rintro _ a1 ⟨aP,rfl,ae⟩
 obtain⟨aD,ab,aU⟩:=Ji ae 6 R
 refine Tv<|Jn 2 R ?_
 cases h
 exact Jv1 _ tv ⟨R,_,ab.wk R⟩<|KM R
 refine JT λh=>Jn 1 R<|Ja4 R<|Jn 2 R ?_
 cases h
 exact Jh4 tv R
 rintro _ W _ ⟨rfl,m,b⟩
 have h:=al
 refine Jd ?_
 revert h
 cases aL:T
 refine JF λh=>Jy R<|Js<|Jp<|Jq<|Jf3 R<|Ob h λV ap O=>?_
 clear h
 refine Jp3 [3,5] (λp s A=>∃B,s=p/\Stp [] m W B A/\V=Dv ()) ?_ ?_
 refine Jv<|Jq3 [2,3,5] (λk p s A=>∃B f,s=(6,vi f)::p/\Stp [] m W B A/\0<=f/\Dq ((p1.Next.length:Int)-f)=k/\cntM (lP p0 p1) k f ()=some V) ⟨_,_,⟨m,0,R,Jk3,(by decide),(by simp),ap⟩,(KM R)⟩ ?_
 rintro k _ a3 ⟨q,f,rfl,d,P,o,h⟩
 rcases k with _|k
 have j:=h;obtain⟨ax,h⟩:=exq j
 have z:=dcf o
 refine Jq<|Jh3 [2,2,1,2,2] 1 R<|Je3 R U71 R Z31<|Jc3 R I31 ((n.stp<|T3 a b d).ld 0 R R)<|Jo3 R U31 R R<|Jb 1 R<|Jx2 R z<|Jc1<|Jt<|Jt ?_
 cases h
 have h:=j
 refine Jb1 ?_
 cases h
 exact Jw1 _ ⟨q,R,d.wk R,R⟩<|KM R
 obtain⟨ax,h,j⟩:=BI h;unfold lP at h
 have z:=dct o
 refine Jq<|Jh3 [2,2,1,2,2] 1 R<|Je3 R U71 R Z31 ?_
 have L:=n.stp (T3 a b d)
 refine Jc3 R I31 (L.ld 0 R R)<|Jo3 R U31 R R<|Jb 1 R<|Jw2 R z<|Js<|Jp<|Jq<|Jv<|Jq<|Js1 (J:=q) [0,2,3] none [(0,2),(2,2),(1,0),(3,2),(4,0),(5,2),(6,0),(7,1),(8,2),(9,2),(10,2),(12,2),(15,2),(11,0),(13,2),(14,0),(16,1),(17,2),(18,2)] [] (by kernel_rfl) (by kernel_rfl) λa4 i=>Je3 R U71 R Z31<|Jn 1 R ?_
 have M:=L.stp i
 refine Jg R (Jd2 I31 R R<|hvC (M.ld 0 R R) R)<|Ob h λaB Q h=>Jd3 R x Q U31 Z37 ?_
 have v:=x.stp (T6 g e a b d i)
 obtain⟨aF,aY,aJ,an⟩:=v.gSl Q
 refine Jg R (Jd2 I37 R R<|hvC an R)<|Jo3 R U37 R R<|Jg R (Jd4 (haC (N.stp<|T4 a b d i).cells R) I28 Z28 R)<|Ob h λaC au h=>Js3 R call120 (g7 (J:=Mk q) (p0:=p0) au) ?_
 rintro _ az ⟨aQ,rfl,af⟩
 obtain⟨D,c,aV⟩:=Ji af 6 R
 refine⟨(c.cl R),Jn 2 R<|Ob h λU h am=>Jg4 [2,3,5,6] 43 U D az [(10,2),(12,2),(15,2),(11,0),(13,2),(14,0),(16,1),(17,2),(18,2)] [] (c.cl R) ?_ ?_⟩
 revert h
 cases aM:((aB.length:Int) !=aC)
 refine JF λh=>Je3 R U71 R Z31<|Jn 2 R<|Jg R (Jd2 I31 R R<|hvC (M.ld 0 R R) R)<|Ob h λba S h=>Jd3 R v S U31 Z37 ?_
 obtain⟨aG,aZ,aj,ao⟩:=v.gSl S
 refine Jg R (Jd2 I37 R R<|hvC ao R)<|Ob h λbb av h=>Js3 R call61 (mG (J:=Mk D) (Jj3<|aj.stp c) av) ?_
 rintro _ a6 ⟨aR,rfl,ag⟩
 obtain⟨aE,u,aW⟩:=Ji ag 8 R
 refine⟨((c.tr u).cl R),Jn 2 R ?_⟩
 cases h
 exact Jv1 _ ((c.tr u).cl R) ⟨R,_,u.wk R⟩<|KM R
 refine JT λh=>Jn 3 R<|Jb4 R<|Jn 1 R<|Jb4 R<|Ja4 R<|Jn 2 R ?_
 cases h
 exact Jv1 _ (c.cl R) ⟨R,_,Jk3⟩<|KM R
 rintro _ a7 _ ⟨rfl,E,F⟩
 have h:=am
 refine Jt1<|Jd ?_
 revert h
 cases aN:U
 refine JF λh=>Jy R<|Js<|Jz<|Jp<|Jg3 R<|wr2 P o x.len_le ▸ ?_
 cases h
 exact Ja2 ⟨E,f+1,R,(T4 d i c F).wk R,nxz P,nxm o,j⟩ R
 refine JT λh=>Jx R<|Jf3 R<|Ju<|Ja1<|Jw<|Jw ?_
 cases h
 obtain rfl:=Ds j
 have h:=yL O
 refine Ja1<|Jr2<|Jw<|Jb2 (l:=[.tmp 4]) results123 (Jq2 R R) R ?_
 cases h
 exact⟨E,R,(y.stp<|T8 g e a b d i c F)⟩
 rintro _ a2 ⟨Y,rfl,t,rfl⟩
 have h:=yI O
 refine Jp<|Je [2,1,2,1,2] R<|Je3 R U71 R Z69<|Jc3 R I69 ((n.stp<|T3 a b t).ld 1 R R)<|Jn 1 R<|Ob h λbc aw h=>Js3 R call133 (qe (J:=Mk Y) (Jj3<|ak.stp<|T5 g e a b t) aw) ?_
 rintro _ a8 ⟨aS,rfl,ah⟩
 obtain⟨aa,ac,aX⟩:=Ji ah 6 R
 refine Tv<|Jb 1 R<|Ju<|Jb2 (l:=[.tmp 4]) results123 (Jq2 R R) R ?_
 cases h
 exact⟨aa,R,(y.stp<|T6 g e a b t ac)⟩
 refine JT λh=>Jx R<|Jf3 R<|Ju<|Jw<|Jb2 (l:=[.tmp 4]) results123 (Jq2 R R) R ?_
 cases h
 exact⟨m,R,(y.stp<|T4 g e a b)⟩
theorem tq {bJ bI bK bN}{p0:Arena}{bH cz}{p1:VP}{p2:Int}(eb:Rd Ri J w 0 bJ bI p0.Owner) (ec:Rd Rs J w 0 bK bN p0.Next) (bb:Rd Pair.rp J w 0 bH cz p1){r:Parity×VL×Bool}(h:ia p0 p1 p2=some r):Ret prog 66 [.agg #[.slice bJ p0.Owner.length bI,.slice bK p0.Next.length bN],.slice bH p1.length cz,vi p2] w (λeF a=>∃(b:Col) (cr:Option Addr) (cv:Nat) (cs:Option Addr) (cw:Nat) (ct:Option Addr) (cx:Nat) (cu:Option Addr) (cy:Nat),eF= .tuple #[.agg #[.slice cr r.1.Arena.Owner.length cv,.slice cs r.1.Arena.Next.length cw,.slice ct r.1.Prio.length cx],.slice cu r.2.1.length cy,.bool r.2.2]/\Ent J w b a/\Oc E6 2 b a 2 cr cv r.1.Arena.Owner/\Oc (Dp E6 2) 37 b a 3 cs cw r.1.Arena.Next/\Oc E6 2 b a 4 ct cx r.1.Prio/\Oc (Dw Place.rp) 88 b a 5 cu cy r.2.1):=by
 unfold ia at h
 refine Jl3 J func66 R ntmps66 R λbc=>Je [1,1,2,2] R<|Jt3 J 2 R λe4 fM cK U d0=>Tv<|Ju3 cK 3 R X79 R λe5 gk cU Q ba=>Tv<|Jb 2 R<|Je [2,1,2,2] R<|Je3 R U75 R Z37 ?_
 have aR:=d0.stp Q
 refine Jc3 R I37 (aR.ld 0 R R)<|Jo3 R U37 R R<|Jb 1 R<|Jq<|Je [1,1,2,2,2,2,1,2,2,2,2,2,2,1,2,2] R<|Jc4 tv R (Jd4 (haE aR.cells) I75 Z75 R)<|Ob h λeR ev h=>?_
 have a7:=eb.stp (U.tr Q)
 have a8:=ec.stp (U.tr Q)
 refine Js3 R call132 (qd (J:=Mk cU) (p0:=p0) (Jj3 a7) (Jj3 a8) ev) ?_
 rintro _ eG ⟨fw,rfl,dp⟩
 obtain⟨bl,n,fD⟩:=Ji dp 4 R
 refine Tv<|Jn 2 R<|Ob h λcm h ed=>Jg4 [1,2,3,6,9] 32 cm bl eG [(4,2),(5,2),(6,1),(7,2),(8,2)] [(9,2),(10,2),(11,2),(12,2),(13,1),(14,2),(15,2)] tv ?_ ?_
 revert h
 cases fs:(!eR)
 refine JF λh=>Jn 2 R<|Ob h λgs ew h=>Js3 R call133 (qe (J:=Mk bl) (Jj3<|bb.stp<|T3 U Q n) ew) ?_
 rintro _ f1 ⟨fy,rfl,dr⟩
 obtain⟨eY,c1,fE⟩:=Ji dr 6 R
 refine Tv<|Jn 2 R ?_
 cases h
 exact Jv1 _ tv ⟨R,_,c1.wk R⟩<|KM R
 refine JT λh=>Jn 2 R<|Ja4 R<|Jn 2 R ?_
 cases h
 exact Jh4 tv R
 rintro _ eJ _ ⟨rfl,bo,s⟩
 have h:=ed
 refine Jn 1 R<|Ob h λcn h ee=>Jg4 [1,2,3,6] 39 cn bo eJ [(10,2),(11,2),(12,2),(13,1),(14,2),(15,2)] [] tv ?_ ?_
 revert h
 cases ft:cm
 refine JF λh=>Jn 3 R<|Ob h λgt ex h=>Js3 R C59 (dD (J:=Mk bo) ex) ?_
 rintro _ gh ⟨fB,rfl,du⟩
 obtain⟨eZ,c2,fG⟩:=Ji du 6 R
 refine Tv<|Jn 2 R ?_
 cases h
 exact Jv1 _ tv ⟨R,_,c2.wk R⟩<|KM R
 refine JT λh=>Jn 3 R<|Ja4 R<|Jn 2 R ?_
 cases h
 exact Jh4 tv R
 rintro _ gi _ ⟨rfl,bp,t⟩
 have h:=ee
 refine Jd ?_
 revert h
 cases fu:cn
 refine JF λh=>Jy R<|Js<|Jp<|Je [1,2] R<|Jy3 bp E6 6 R Y37 bS R λc5 dg cB a0 F d3=>Tv<|Jb 1 R<|Jq<|Jf3 R<|Ob h λco ek ef=>?_
 clear h
 refine Jp3 [1,2,3,6] (λk m a=>∃b,∃K:VI,∃al aj,m=(10,.slice al K.length aj)::k/\Stp [6] a0 cB b a/\Oc E6 2 b a 6 al aj K/\co=Dv K) ?_ ?_
 refine Jv<|Jq3 [1,2,3,6] (λf k m a=>∃b W,∃ao:VI,∃aw aA,m=(10,.slice aw ao.length aA)::(11,vi W)::k/\Stp [6] a0 cB b a/\Oc E6 2 b a 6 aw aA ao/\0<=W/\Dq ((p1.length:Int)-W)=f/\cntM eN f W ao=some co) ⟨_,_,⟨a0,0,([]:VI),c5,dg,R,Jk3,d3,(by decide),(by simp),ek⟩,(KM R)⟩ ?_
 rintro f _ gm ⟨br,W,ao,aw,aA,rfl,bF,b9,cf,aS,h⟩
 rcases f with _|f
 have aT:=h;obtain⟨eD,h⟩:=exq aT
 have bd:=dcf aS
 refine Jq<|Jh3 [2,2,2,2] 2 R<|Jo3 R U69 R R<|Jb 1 R<|Jx2 R bd<|Jc1<|Jt<|Jt ?_
 cases h
 have h:=aT
 refine Jb1 ?_
 cases h
 exact Jw1 _ ⟨br,ao,aw,aA,R,bF.wk R,b9,R⟩<|KM R
 obtain⟨eD,h,aT⟩:=BI h;unfold eN at h
 have bd:=dct aS
 refine Jq<|Jh3 [2,2,2,2] 2 R<|Jo3 R U69 R R<|Jb 1 R<|Jw2 R bd<|Js<|Jp<|Jq<|Jv<|Ji3 [2,2,1,1,2] 2 R<|Je4 br 7 [W] R Y37 bS R λfj e8 gn cW bG d5=>Tv<|Ob h λeS ey h=>Jz3 cW E6 6 [] R Y37 bS R (b9.stp bG) (Du (cc _) d5.rdc) bV ey R λdc dm go cX c3 d6=>Tv<|Jc 1 R<|Jz<|Jp<|Jg3 R<|wr2 cf aS bb.len_le ▸ ?_
 cases h
 exact Ja2 ⟨cX,W+1,eS,dc,dm,R,(T3 bF bG c3).wk R,d6,nxz cf,nxm aS,aT⟩ R
 rintro _ eK ⟨cV,K,al,aj,rfl,G,d4,rfl⟩
 have h:=yI ef
 refine Jp<|Jh3 [2,2,2,1,2] 2 R<|Jf R (Jj4 [vi p2,.slice al K.length aj] R) ?_
 obtain⟨cY,H,eX⟩:=gD cV eK 6
 refine Jx3 cY (Dw Place.rp) 7 [] (parts:=[(0,.tmp 55)]) (cells:=[vi p2,.slice al K.length aj]) (xs:=([(⟨p2,K⟩:Place)]:VL)) R Y80 gJ R (Jf4<|Place.mk_rel (x:=(⟨p2,K⟩:Place))<|Sl.z1<|Sl.st eX d4.rdc) λda dl gp cZ I d7=>Tv<|Jb 1 R<|Je [2,1,1] R<|Jf R (Jj4 [.slice none 0 0,.slice none 0 0,.slice none 0 0] R)<|Ju3 cZ 8 R X79 R λbO gq ar v d8=>Tv<|Ji4 ar 8 R Z79 R d8 R λcC y d9=>Tv<|Jd<|Jq<|Jf3 R<|Ob h λcp el ce=>?_
 clear h
 refine Jp3 [6,13] (λk m a=>∃b,∃z:VL×Int×VI×VV×VI,∃aK az aL aC au ax aM av,m=(12,.slice aK z.1.length az)::k/\Stp [7,8,9,10,11,12,16,19,20,21] ar cC b a/\Oc (Dw Place.rp) 88 b a 7 aK az z.1/\Oc E6 2 b a 9 aL aC z.2.2.1/\Oc (Dp E6 2) 37 b a 10 au ax z.2.2.2.1/\Oc E6 2 b a 11 aM av z.2.2.2.2/\Bc b a 8 bO 79 [.slice aL z.2.2.1.length aC,.slice au z.2.2.2.1.length ax,.slice aM z.2.2.2.2.length av]/\cp=Dv z) ?_ ?_
 refine Jv<|Jq3 [1,3,6,13] (λf k m a=>∃b,∃c:VL×Int×VI×VV×VI,∃ai am aJ aD ak ae Z aa,m=(12,.slice ai c.1.length am)::(14,vi c.2.1)::k/\Stp [7,8,9,10,11,12,16,19,20,21] ar cC b a/\Oc (Dw Place.rp) 88 b a 7 ai am c.1/\Oc E6 2 b a 9 aJ aD c.2.2.1/\Oc (Dp E6 2) 37 b a 10 ak ae c.2.2.2.1/\Oc E6 2 b a 11 Z aa c.2.2.2.2/\Bc b a 8 bO 79 [.slice aJ c.2.2.1.length aD,.slice ak c.2.2.2.1.length ae,.slice Z c.2.2.2.2.length aa]/\cd (eO p0 p1) f c=some cp) ⟨_,_,⟨ar,((([(⟨p2,K⟩:Place)]:VL):VL),(0:Int),([]:VI),([]:VV),([]:VI)),da,dl,none,0,none,0,none,0,R,Jk3,(d7.stp<|v.tr y),Dt,Dt,Dt,d9,el⟩,(KM R)⟩ ?_
 rintro f _ fN ⟨bh,c,ai,am,aJ,aD,ak,ae,Z,aa,rfl,A,aO,bP,bQ,bR,bT,h⟩
 rcases f with _|f
 cases h
 obtain⟨fI,h,be⟩:=BI h;unfold eO at h
 refine Jq<|Jh3 [2,2,2,2] 2 R<|Jo3 R U80 R R<|Jb 1 R ?_
 revert h
 cases fo:decide (c.2.1<(c.1.length:Int))
 refine JF λh=>Jy R<|Jc1<|Jt<|Jt ?_
 cases h
 have h:=be
 refine Jb1 ?_
 cases h
 exact Jw1 _ ⟨bh,(c.1,c.2.1,c.2.2.1,c.2.2.2.1,c.2.2.2.2),ai,am,aJ,aD,ak,ae,Z,aa,R,A.wk R,aO,bP,bQ,bR,bT,R⟩<|KM R
 refine JT λh=>Jx R<|Js<|Jp<|Jq<|Jv<|Jh3 [2,2,2,1,1,1] 2 R<|Ob h λeT ci h=>Jd3 R aO.rdc ci U80 Z88 ?_
 obtain⟨fm,em,ei⟩:=Ow.gZS aO ci
 obtain⟨e0,fJ,rfl,ea⟩:=Place.un em
 refine Jc4 tv R (Jd4 (haE ei) I88 Z88 R)<|Ju3 bh 12 R zeroValue88 R λe3 fO bi i dA=>Tv<|Ji4 bi 12 R Z88 R dA R λfP j aP=>Tv<|Jd<|Jh3 [2,2,1,2,1,1,2] 1 R<|Je3 R U88 R Z37<|Jc3 R I37 (aP.ld 1 R R)<|Je3 R U88 R Z2<|Jc3 R I2 (aP.ld 0 R R)<|Ob h λeU ez h=>?_
 have bU:=bb.stp (T14 U Q n s t F G H I v y A i j)
 have bX:=ea.stp (i.tr j)
 refine Js3 R call134 (uR (J:=Mk bi) (Jj3 bU) (Jj3 bX) ez) ?_
 rintro _ fQ ⟨fv,fl,fh,rfl,dn,dB⟩
 obtain⟨cF,e,eB⟩:=Ji dn 13 R
 refine Tv<|Jb 1 R<|Je [1,2] R<|Jy3 cF E6 16 R Y37 bS R λdj dh cA aX d dC=>Tv<|Jb 1 R<|Jq<|Jf3 R<|Ob h λcq ej ca=>?_
 clear h
 refine Jp3 [1,3,6,13,14,15] (λk m a=>∃b,∃V:VL×VI×Int,∃aG ay a3 a6,m=(12,.slice aG V.1.length ay)::(17,.slice a3 V.2.1.length a6)::k/\Stp [7,16,19,20] aX cA b a/\Oc (Dw Place.rp) 88 b a 7 aG ay V.1/\Oc E6 2 b a 16 a3 a6 V.2.1/\cq=Dv V) ?_ ?_
 refine Jv<|Jq3 [1,3,6,13,14,15,16] (λf k m a=>∃b,∃g:VL×VI×Int,∃ag af aH aN,m=(12,.slice ag g.1.length af)::(17,.slice aH g.2.1.length aN)::(18,vi g.2.2)::k/\Stp [7,16,19,20] aX cA b a/\Oc (Dw Place.rp) 88 b a 7 ag af g.1/\Oc E6 2 b a 16 aH aN g.2.1/\cd (gv p0 eT eU) f g=some cq) ⟨_,_,⟨aX,(c.1,([]:VI),(0:Int)),ai,am,dj,dh,R,Jk3,(aO.stp<|T4 i j e d),dC,ej⟩,(KM R)⟩ ?_
 rintro f _ fS ⟨bk,g,ag,af,aH,aN,rfl,L,aQ,bY,h⟩
 rcases f with _|f
 cases h
 obtain⟨fH,h,bf⟩:=BI h;unfold gv at h
 refine Jq<|Jh3 [2,2,1,2,1,2,1,2,2] 1 R<|Je3 R U75 R Z31 ?_
 have b0:=aR.stp (T15 n s t F G H I v y A i j e d L)
 refine Jc3 R I31 (b0.ld 1 R R)<|Je3 R U88 R Z2 ?_
 have b1:=aP.stp (T3 e d L)
 refine Jc3 R I2 (b1.ld 0 R R)<|Ob h λeV cj h=>Jd3 R a8 cj U31 Z37 ?_
 have a9:=a8.stp (T15 n s t F G H I v y A i j e d L)
 obtain⟨e1,fK,fn,eg⟩:=a9.gSl cj
 refine Jc3 R I37 eg<|Jo3 R U37 R R<|Jb 1 R ?_
 revert h
 cases fp:decide (g.2.2<(eV.length:Int))
 refine JF λh=>Jy R<|Jc1<|Jt<|Jt ?_
 cases h
 have h:=bf
 refine Jb1 ?_
 cases h
 exact Jw1 _ ⟨bk,(g.1,g.2.1,g.2.2),ag,af,aH,aN,R,L.wk R,aQ,bY,R⟩<|KM R
 refine JT λh=>Jx R<|Js<|Jp<|Jq<|Jv<|Je [2,1,2,1,2,1,2,2,1,2] R<|Je3 R U75 R Z31<|Jc3 R I31 (b0.ld 1 R R)<|Je3 R U88 R Z2<|Jc3 R I2 (b1.ld 0 R R)<|Ob h λgu ck h=>Jd3 R a9 ck U31 Z37 ?_
 obtain⟨e2,fL,b2,eh⟩:=a9.gSl ck
 refine Jc3 R I37 eh<|Jn 1 R<|Ob h λaW cl h=>Jd3 R b2 cl U37 Z2<|Jc3 R I2 (b2.gInt cl)<|Jb 1 R<|Jh3 [2,2,2,1,2] 3 R<|Ob h λcE eA h=>?_
 have b3:=(dB.mx (bZ _) eB R (R:13+2=15)).stp (d.tr L)
 refine Js3 R call135 (uQ (J:=Mk bk) (Jj3 aQ.rdc) (Jj3 b3.rdc) eA) ?_
 rintro _ eH ⟨fx,rfl,dq⟩
 obtain⟨aq,S,fC⟩:=Ji dq 17 R
 refine Tv<|Jb 1 R<|Jq<|Jf3 R<|Ob h λeE h cb=>Jp3 [1,3,6,13,14,15,16,17,18] (λk m a=>∃b,∃X:VL×Int,∃aI aF,m=(12,.slice aI X.1.length aF)::(20,vi X.2)::k/\Stp [7,19,20] aq eH b a/\Oc (Dw Place.rp) 88 b a 7 aI aF X.1/\eE=Dv X) ?_ ?_
 revert h
 cases fq:decide (cE<0)
 refine JF λh=>Jy R<|Js ?_
 cases h
 exact Jw1 _ ⟨aq,(g.1,cE),ag,af,R,Jk3,(aQ.stp S),R⟩<|KM R
 refine JT λh=>Jx R<|Jh3 [2,2,2] 1 R<|Jo3 R U80 R R<|Jb 1 R<|Jq<|Jf3 R ?_
 revert h
 cases fr:decide (256<=(g.1.length:Int))
 refine JF λh=>Jy R<|Js<|Jp<|Ji3 [2,2,1,2,1,2,1,1,2] 2 R<|Jy3 aq E6 19 R Y37 bS R λe6 fg fW cH a1 dJ=>Tv<|Jn 1 R<|Ob h λaU en h=>Jz3 cH E6 19 [] R Y37 bS R dJ (Du (cc _) (b3.stp<|S.tr a1).rdc) bV en R λbM bL eI cI bz dK=>Tv<|Jf R (Jj4 [vi aW,.slice bM aU.length bL] R) ?_
 obtain⟨cJ,bA,eW⟩:=gD cI eI 19
 refine Jx3 cJ (Dw Place.rp) 20 [] (parts:=[(0,.tmp 112)]) (cells:=[vi aW,.slice bM aU.length bL]) (xs:=([(⟨aW,aU⟩:Place)]:VL)) R Y80 gJ R (Jf4<|Place.mk_rel (x:=(⟨aW,aU⟩:Place))<|Sl.z1<|Sl.st eW dK.rdc) λfe fb fX cL bB dL=>Tv<|Ob h λeL eo h=>Jz3 cL (Dw Place.rp) 7 [20] R Y80 gJ R (aQ.stp<|T5 S a1 bz bA bB) dL.src (c9 R) eo R λc4 db fY cM c0 dM=>Tv<|Jc 1 R ?_
 cases h
 exact Jw1 _ ⟨cM,(eL,((g.1.length:Int):Int)),c4,db,R,(T5 a1 bz bA bB c0).wk R,dM,R⟩<|KM R
 refine JT λh=>Jx R<|Je [2,1,1,2,2] R<|Jf R (Jj4 [.slice none 0 0,.slice none 0 0,.slice none 0 0] R)<|Jy3 aq (Dw Place.rp) 19 R Y80 gJ R λc6 c7 fU bm bw dH=>Tv<|Ji4 bm 3 R Z79 R (ba.stp<|n.tr<|s.tr<|t.tr<|F.tr<|G.tr<|H.tr<|I.tr<|v.tr<|y.tr<|A.tr<|i.tr<|j.tr<|e.tr<|d.tr<|L.tr<|S.tr bw) R λfV bx dI=>Tv<|Jb 2 R<|Ju<|Jw<|Jr2 ?_
 cases h
 have h:=cb
 dsimp only[aft]at h
 refine Jw<|Ja1<|Jw<|Jw ?_
 cases h
 obtain rfl:=Ds bf
 have h:=yL ca
 refine Ja1<|Jr2<|Jw<|Ja1<|Jw<|Jw ?_
 cases h
 obtain rfl:=Ds be
 have h:=yL ce
 refine Ja1<|Jr2<|Jw<|Jb2 (l:=[.cell 6 79,.tmp 7,.tmp 8]) results66 (cg R dI I79 Z79 R<|Jq2 R<|Jq2 R R) R ?_
 cases h
 exact⟨(λan=>ren [(19,5)]<|bm an),none,0,none,0,none,0,c6,c7,R,((bc.stp<|U.tr<|Q.tr<|n.tr<|s.tr<|t.tr<|F.tr<|G.tr<|H.tr<|I.tr<|v.tr<|y.tr<|A.tr<|i.tr<|j.tr<|e.tr<|d.tr<|L.tr<|S.tr<|bw.tr bx).map (ren [(19,5)]) R R),Dt,Dt,Dt,((dH.stp bx).map (ren [(19,5)]) R R)⟩
 rintro _ fT ⟨cG,X,aI,aF,rfl,bv,dG,rfl⟩
 have h:=yI cb
 refine Jp<|Ji3 [2,2,1,1,2] 2 R<|Je4 cG 19 [X.2] R Y37 bS R λe9 ff fZ cN a2 dN=>Tv<|Ob h λeM ep h=>Jz3 cN E6 16 [] R Y37 bS R (bY.stp<|T3 S bv a2) (Du (cc _) dN.rdc) bV ep R λc8 dd f0 cO bC dO=>Tv<|Jc 1 R<|Jz<|Jp<|Jg3 R ?_
 cases h
 exact Ja2 ⟨cO,(X.1,eM,((Dr .i64<|g.2.2+1):Int)),aI,aF,c8,dd,R,(T5 L S bv a2 bC).wk R,(dG.stp<|a2.tr bC),dO,bf⟩ R
 rintro _ fR ⟨bj,V,aG,ay,a3,a6,rfl,B,dE,dF,rfl⟩
 have h:=yI ca
 refine Jp<|Jq<|Js1 (J:=bj) [0,2,8,12] (some 13) [(0,2),(1,2),(3,2),(5,2),(2,0),(4,0),(6,0),(7,2),(8,0),(9,1),(10,1),(11,2),(12,2)] [(13,1)] (by kernel_rfl) (by kernel_rfl) λf2 o=>Je3 R U79 R Z75<|Je3 R U75 R Z37<|Je3 R U75 R Z37<|Je3 R U88 R Z2 ?_
 have b4:=bT.stp (T6 i j e d B o)
 refine Jg R (Jd2 I37 R R<|hvC (b4.ld 0 R R) R)<|Jg R (Jd2 I37 R R<|hvC ((aR.stp<|T16 n s t F G H I v y A i j e d B o).ld 0 R R) R) ?_
 have b5:=aP.stp (T4 e d B o)
 refine Jg R (Jd2 I2 R R<|hvC (b5.ld 0 R R) R)<|Ob h λeP ch h=>Jd3 R a7 ch U37 Z2<|Jg R (Jd2 I2 R R<|hvC ((a7.stp<|T16 n s t F G H I v y A i j e d B o).gInt ch) R)<|Je4 bj 17 [eP] R Y37 bS R λfc fa f3 cP p dP=>⟨(p.cl R),Ob h λap eq h=>Jz3 cP E6 9 [] R Y37 bS R (bP.stp<|T7 i j e d B o p) (Du (cc _) dP.rdc) bV eq R λah ad f4 aY C dQ=>⟨((p.tr C).cl R),Je3 R U79 R Z75<|Je3 R U75 R Z37<|Jt1<|Jv3 aY 8 (off:=0) (vc:=[.slice ah ap.length ad]) (cs':=[.slice ah ap.length ad,.slice ak c.2.2.2.1.length ae,.slice Z c.2.2.2.2.length aa]) R Z37 R (b4.stp<|p.tr C) R λf5 M dR=>Tv<|Jd<|Jq<|Js1 (J:=aY) [8] (some 9) [(0,2),(1,2),(3,2),(2,0),(4,1),(5,1),(6,1),(7,2),(8,2)] [(9,1)] (by kernel_rfl) (by kernel_rfl) λf6 D=>Je3 R U79 R Z75<|Je3 R U75 R Z31<|Jn 1 R ?_⟩⟩
 have b6:=dR.stp D
 refine Jg R (Jd2 I31 R R<|hvC (b6.ld 1 R R) R)<|Ob h λcD er h=>Js3 R call136 (sI (J:=Mk aY) (Jj3 (dF.stp<|T5 o p C M D).rdc) er) ?_
 rintro _ f7 ⟨fz,df,dk,rfl,ds,dS⟩
 obtain⟨cQ,q,eC⟩:=Ji ds 18 R
 refine⟨(q.cl R),Jx3 cQ (Dp E6 2) 21 [20] (parts:=[(0,.tmp 136)]) (cells:=[.slice df cD.length dk]) (xs:=([cD]:VV)) R Y31 bW R (Jf4 ⟨_,_,R,(dS.mx (bZ _) eC R (R:18+2=20))⟩) λfd e7 f8 cR u dT=>⟨((q.tr u).cl R),Ob h λaV es h=>Jz3 cR (Dp E6 2) 10 [21] R Y31 bW R (bQ.stp<|T12 i j e d B o p C M D q u) dT.src (c9 R) es R λaB aE f9 aZ N dU=>⟨((T3 q u N).cl R),Je3 R U79 R Z75<|Je3 R U75 R Z31<|Jt1<|Jv3 aZ 8 (off:=1) (vc:=[.slice aB aV.length aE]) (cs':=[.slice ah ap.length ad,.slice aB aV.length aE,.slice Z c.2.2.2.2.length aa]) R Z31 R (b6.stp<|T3 q u N) R λga T dV=>Tv<|Jd<|Js1 (J:=aZ) [8,12] (some 11) [(0,2),(2,2),(3,2),(5,2),(1,0),(4,0),(6,0),(7,1),(8,1),(9,1),(10,2)] [(11,1)] (by kernel_rfl) (by kernel_rfl) λgb O=>Je3 R U79 R Z37<|Jn 1 R<|Je3 R U88 R Z37<|Je3 R U88 R Z2 ?_⟩⟩⟩
 have b7:=dV.stp O
 refine Jg R (Jd2 I37 R R<|hvC (b7.ld 2 R R) R) ?_
 have b8:=b5.stp (T9 p C M D q u N T O)
 have bt:=(T13 e d B o p C M D q u N T O)
 refine Jg R (Jd2 I37 R R<|hvC (b8.ld 1 R R) R)<|Jg R (Jd2 I2 R R<|hvC (b8.ld 0 R R) R)<|Ob h λeQ et h=>Js3 R call137 (uS (J:=Mk aZ) (Jj3<|bU.stp bt) (Jj3<|bX.stp bt) et) ?_
 rintro _ gc ⟨fA,rfl,dt⟩
 obtain⟨cS,E,fF⟩:=Ji dt 22 R
 refine⟨(E.cl R),Je4 cS 24 [eQ] R Y37 bS R λfi fk gd cT P dW=>⟨((E.tr P).cl R),Ob h λbg eu h=>Jz3 cT E6 11 [] R Y37 bS R (bR.stp<|i.tr<|j.tr<|e.tr<|d.tr<|B.tr<|o.tr<|p.tr<|C.tr<|M.tr<|D.tr<|q.tr<|u.tr<|N.tr<|T.tr<|O.tr<|E.tr P) (Du (cc _) dW.rdc) bV eu R λa4 a5 ge bn Y dX=>⟨((T3 E P Y).cl R),Je3 R U79 R Z37<|Jt1<|Jv3 bn 8 (off:=2) (vc:=[.slice a4 bg.length a5]) (cs':=[.slice ah ap.length ad,.slice aB aV.length aE,.slice a4 bg.length a5]) R Z37 R (b7.stp<|T3 E P Y) R λgf ab dY=>Tv<|Jo<|Jz<|Jp<|Jg3 R ?_⟩⟩⟩
 cases h
 exact Ja2 ⟨bn,(V.1,((Dr .i64<|c.2.1+1):Int),ap,aV,bg),aG,ay,ah,ad,aB,aE,a4,a5,R,(A.tr<|i.tr<|j.tr<|e.tr<|d.tr<|B.tr<|o.tr<|p.tr<|C.tr<|M.tr<|D.tr<|q.tr<|u.tr<|N.tr<|T.tr<|O.tr<|E.tr<|P.tr<|Y.tr ab).wk R,(dE.stp<|T14 o p C M D q u N T O E P Y ab),(dQ.stp<|T11 M D q u N T O E P Y ab),(dU.stp<|T6 T O E P Y ab),(dX.stp ab),dY,be⟩ R
 rintro _ gr ⟨bs,z,aK,az,aL,aC,au,ax,aM,av,rfl,bu,dv,dw,dx,dy,dz,rfl⟩
 have h:=yI ce
 refine Jp<|Je [1,2,1,2,2] R<|Jc4 tv R (Jd4 (haE dz.cells) I79 Z79 R)<|Jn 1 R<|Ji4 bs 3 R Z79 R (ba.stp<|T10 n s t F G H I v y bu) R λgg ac dZ=>Tv<|Jb 2 R<|Ju<|Jb2 (l:=[.cell 6 79,.tmp 7,.tmp 8]) results66 (cg R dZ I79 Z79 R<|Jq2 R<|Jq2 R R) R ?_
 cases h
 exact⟨(λan=>ren [(9,2),(10,3),(11,4),(7,5)]<|bs an),aL,aC,au,ax,aM,av,aK,az,R,((bc.stp<|T13 U Q n s t F G H I v y bu ac).map (ren [(9,2),(10,3),(11,4),(7,5)]) R R),((dw.stp ac).map (ren [(9,2),(10,3),(11,4),(7,5)]) R R),((dx.stp ac).map (ren [(9,2),(10,3),(11,4),(7,5)]) R R),((dy.stp ac).map (ren [(9,2),(10,3),(11,4),(7,5)]) R R),((dv.stp ac).map (ren [(9,2),(10,3),(11,4),(7,5)]) R R)⟩
 refine JT λh=>Jx R<|Je [2,1,1,2,2] R<|Jf R (Jj4 [.slice none 0 0,.slice none 0 0,.slice none 0 0] R)<|Jy3 bp (Dw Place.rp) 6 R Y80 gJ R λde di gj bq bD d1=>Tv<|Ji4 bq 3 R Z79 R (ba.stp<|T4 n s t bD) R λgl bE d2=>Tv<|Jb 2 R<|Ju<|Jw<|Jb2 (l:=[.cell 6 79,.tmp 7,.tmp 8]) results66 (cg R d2 I79 Z79 R<|Jq2 R<|Jq2 R R) R ?_
 cases h
 exact⟨(λan=>ren [(6,5)]<|bq an),none,0,none,0,none,0,de,di,R,((bc.stp<|T7 U Q n s t bD bE).map (ren [(6,5)]) R R),Dt,Dt,Dt,((d1.stp bE).map (ren [(6,5)]) R R)⟩
theorem xt {ay aI aH ar aF aG}{p0:Parity}{aE bc}{p1:VI}(bX:Rd Ri J w 0 ay aI p0.Arena.Owner) (bY:Rd Rs J w 0 aH ar p0.Arena.Next) (b0:Rd Ri J w 0 aF aG p0.Prio) (aV:Rd Ri J w 0 aE bc p1){r:VI×VI}(h:qf p0 p1=some r):Ret prog 190 [.agg #[.slice ay p0.Arena.Owner.length aI,.slice aH p0.Arena.Next.length ar,.slice aF p0.Prio.length aG],.slice aE p1.length bc] w (λcj a=>∃(b:Col) (a8:Option Addr) (ba:Nat) (a9:Option Addr) (bb:Nat),cj= .tuple #[.slice a8 r.1.length ba,.slice a9 r.2.length bb]/\Ent J w b a/\Oc E6 2 b a 2 a8 ba r.1/\Oc E6 2 b a 3 a9 bb r.2):=by
 unfold qf at h
 refine Jl3 J func190 R ntmps190 R λap=>Je [1,2,2] R<|Jt3 J 2 R λcM c2 bm p bN=>Tv<|Jb 2 R<|Je [1,2] R<|Jy3 bm E6 3 R Y37 bS R λag aj dd bo n ao=>Tv<|Jb 1 R<|Je [1,2] R<|Jy3 bo E6 4 R Y37 bS R λah ai di bf e ak=>Tv<|Jb 1 R<|Jq<|Je [1,1,2,2,2,2,1,2,1,2,2] R ?_
 have al:=bN.stp (n.tr e)
 refine Jc4 tv R (Jd4 (haE al.cells) I79 Z79 R)<|Ob h λcm b6 h=>?_
 have aK:=bX.stp (T3 p n e)
 have aL:=bY.stp (T3 p n e)
 have aM:=b0.stp (T3 p n e)
 refine Js3 R call138 (tp (J:=Mk bf) (p0:=p0) (Jj3 aK) (Jj3 aL) (Jj3 aM) b6) ?_
 rintro _ cl ⟨cV,rfl,bA⟩
 obtain⟨az,c,c0⟩:=Ji bA 5 R
 refine Tv<|Jn 2 R<|Ob h λa5 h b3=>Jg4 [1,2,6,7] 25 a5 az cl [(4,2),(5,2),(6,1),(7,2),(8,1),(9,2),(10,2)] [] tv ?_ ?_
 revert h
 cases cR:(!cm)
 refine JF λh=>Jn 1 R<|Je3 R U79 R Z37<|Jc3 R I37 ((al.stp c).ld 2 R R)<|Jo3 R U37 R R<|Ob h λdk b7 h=>Js3 R call80 (px (J:=Mk az) (Jj3<|aV.stp<|T4 p n e c) b7) ?_
 rintro _ da ⟨cW,rfl,bB⟩
 obtain⟨ct,bs,c1⟩:=Ji bB 7 R
 refine Tv<|Jn 2 R ?_
 cases h
 exact Jv1 _ tv ⟨R,_,bs.wk R⟩<|KM R
 refine JT λh=>Jn 2 R<|Ja4 R<|Jn 1 R<|Ja4 R<|Jn 2 R ?_
 cases h
 exact Jh4 tv R
 rintro _ db _ ⟨rfl,aA,d⟩
 have h:=b3
 refine Jd ?_
 revert h
 cases cS:a5
 refine JF λh=>Jy R<|Js<|Jp<|Je [1,1,1,1] R ?_
 have aN:=al.stp (c.tr d)
 refine Jc4 tv R (Jd4 (haE aN.cells) I79 Z79 R)<|Ob h λav b8 h=>Js3 R call201 (yQ (J:=λv=>mp [] 1<|aA v) (p0:=p0) (Jm2 (aK.stp<|c.tr d) (mp [] 1) R R) (Jm2 (aL.stp<|c.tr d) (mp [] 1) R R) (Jm2 (aM.stp<|c.tr d) (mp [] 1) R R) b8) ?_
 rintro _ dc ⟨cX,cu,cF,cC,cz,cx,cL,cy,cB,cH,cw,rfl,bC,bO,bP,bQ,bR,bT⟩
 obtain⟨bn,q,a4,aw⟩:=Jj bC 7 R
 refine Tv<|?_
 have aO:=bO.mx aw
 have aP:=bP.mx aw
 have aQ:=bQ.mx aw
 have aR:=bR.mx (cQ (bZ _) _) a4 R (R:7+5=12)
 have aS:=bT.mx (bZ _) a4 R (R:7+6=13)
 refine Ju3 bn 14 R X210 R λcN de aB j bU=>Tv<|Ji4 aB 14 R Z210 R bU R λdf k aT=>Tv<|Jd<|Je [2,1,2,2,1,2] R<|Je3 R U79 R Z37<|Jc3 R I37 ((aN.stp<|T3 q j k).ld 2 R R)<|Jo3 R U37 R R<|Jn 1 R<|Ob h λcn b9 h=>?_
 have x:=aV.stp (T8 p n e c d q j k)
 refine Js3 R call248 (wz (J:=Mk aB) (Jj3 x) b9) ?_
 rintro _ be ⟨cY,cA,cK,rfl,bD,bW⟩
 obtain⟨ac,f,cg⟩:=Ji bD 15 R
 refine Tv<|?_
 have aU:=bW.mx dA cg R (R:15+2=17)
 refine Jb 1 R<|Jq<|Jf3 R<|Ob h λa6 b5 aW=>?_
 clear h
 refine Jp3 [1,6,7,8,9] (λt m a=>∃b,m=t/\Stp [] ac be b a/\a6=Dv ()) ?_ ?_
 refine Jv<|Jq3 [1,6,7,8,9] (λi t m a=>∃b A,m=(10,vi A)::t/\Stp [] ac be b a/\0<=A/\Dq ((p1.length:Int)-A)=i/\cntM (lV p1 av cn) i A ()=some a6) ⟨_,_,⟨ac,0,R,Jk3,(by decide),(by simp),b5⟩,(KM R)⟩ ?_
 rintro i _ dh ⟨ad,A,rfl,o,aY,Z,h⟩
 rcases i with _|i
 have L:=h;obtain⟨ci,h⟩:=exq L
 have au:=dcf Z
 refine Jq<|Jh3 [2,2,2,2] 2 R<|Jo3 R U37 R R<|Jb 1 R<|Jx2 R au<|Jc1<|Jt<|Jt ?_
 cases h
 have h:=L
 refine Jb1 ?_
 cases h
 exact Jw1 _ ⟨ad,R,o.wk R,R⟩<|KM R
 obtain⟨ci,h,L⟩:=BI h;unfold lV at h
 have au:=dct Z
 have C:=(T4 j k f o)
 refine Jq<|Jh3 [2,2,2,2] 2 R<|Jo3 R U37 R R<|Jb 1 R<|Jw2 R au<|Js<|Jp<|Jq<|Jv<|Jq<|Js1 (J:=ad) [0,14] none [(1,2),(2,2),(3,2),(4,2),(0,0),(5,0),(6,1),(7,2)] [] (by kernel_rfl) (by kernel_rfl) λdj g=>Jn 3 R<|Ob h λdl aZ h=>Jd3 R x aZ U37 Z2<|Jg R (Jd4 (haC (aT.stp<|T3 f o g).cells R) I210 Z210 R)<|Jg R (Jd2 I2 R R<|hvC ((x.stp<|T3 f o g).gInt aZ) R)<|Ob h λco ca h=>Js3 R call249 (pg (J:=Mk ad) (p0:=av) (Jj3<|aO.stp<|C.tr g) (Jj3<|aP.stp<|C.tr g) (Jj3<|aQ.stp<|C.tr g) (Jj3 (aR.stp<|C.tr g).rdc) (Jj3 (aS.stp<|C.tr g).rdc) (Jj3 (aU.stp<|o.tr g).rdc) ca) ?_
 rintro _ c3 ⟨cT,rfl,bx⟩
 obtain⟨ax,E,cZ⟩:=Ji bx 18 R
 refine⟨(E.cl R),Jn 1 R<|Jt1<|Jd ?_⟩
 revert h
 cases cO:(co==0)
 refine JF λh=>Jy R<|Js<|Jz<|Jp<|Jg3 R<|wr2 aY Z x.len_le ▸ ?_
 cases h
 exact Ja2 ⟨ax,A+1,R,(T3 o g E).wk R,nxz aY,nxm Z,L⟩ R
 refine JT λh=>Jx R<|Jf3 R<|Ju<|Ja1<|Jw<|Jw ?_
 cases h
 obtain rfl:=Ds L
 have h:=yL aW
 refine Ja1<|Jr2<|Jw<|Jb2 (l:=[.tmp 4,.tmp 5]) results190 (Jq2 R<|Jq2 R R) R ?_
 cases h
 exact⟨(λv=>ren [(3,2),(4,3)]<|ax v),ag,aj,ah,ai,R,((ap.stp<|T12 p n e c d q j k f o g E).map (ren [(3,2),(4,3)]) R R),((ao.stp<|T10 e c d q j k f o g E).map (ren [(3,2),(4,3)]) R R),((ak.stp<|T9 c d q j k f o g E).map (ren [(3,2),(4,3)]) R R)⟩
 rintro _ dg ⟨bp,rfl,u,rfl⟩
 have h:=yI aW
 have D:=(T4 j k f u)
 refine Jp<|Je [1,2,1,2] R<|Jc4 tv R (Jd4 (haE (aT.stp<|f.tr u).cells) I210 Z210 R)<|Jn 1 R<|Ob h λcp cb h=>Js3 R call250 (xy _ (J:=Mk bp) (p0:=av) (Jj3<|aO.stp D) (Jj3<|aP.stp D) (Jj3<|aQ.stp D) (Jj3 (aR.stp D).rdc) (Jj3 (aS.stp D).rdc) (Jj3 (aU.stp u).rdc) cb) ?_
 rintro _ bd ⟨cU,cD,cI,rfl,bz,bE⟩
 obtain⟨ab,N,cf⟩:=Ji bz 18 R
 refine Tv<|?_
 have aJ:=bE.mx dA cf R (R:18+2=20)
 refine Jb 1 R<|Jq<|Jf3 R<|Ob h λa7 b4 b1=>?_
 clear h
 refine Jx1 (λm a=>∃b,∃z:VI×VI,∃X P S V,m=[(6,.slice X z.1.length P),(7,.slice S z.2.length V)]/\Stp [3,4] ab bd b a/\Oc E6 2 b a 3 X P z.1/\Oc E6 2 b a 4 S V z.2/\a7=Dv z) ?_ ?_
 refine Jv<|Jq3 [1,11] (λi t m a=>∃b B,∃s:VI×VI,∃G H I F,m=(6,.slice G s.1.length H)::(7,.slice I s.2.length F)::(12,vi B)::t/\Stp [3,4] ab bd b a/\Oc E6 2 b a 3 G H s.1/\Oc E6 2 b a 4 I F s.2/\0<=B/\Dq ((p1.length:Int)-B)=i/\cntM (lW p1 cp) i B s=some a7) ⟨_,_,⟨ab,0,(([]:VI),([]:VI)),ag,aj,ah,ai,R,Jk3,(ao.stp<|T9 e c d q j k f u N),(ak.stp<|T8 c d q j k f u N),(by decide),(by simp),b4⟩,(KM R)⟩ ?_
 rintro i _ ck ⟨M,B,s,G,H,I,F,rfl,O,am,an,aX,Y,h⟩
 rcases i with _|i
 have aa:=h;obtain⟨ch,h⟩:=exq aa
 have aq:=dcf Y
 refine Jq<|Jh3 [2,2,2,2] 2 R<|Jo3 R U37 R R<|Jb 1 R<|Jx2 R aq<|Jc1<|Jt<|Jt ?_
 cases h
 have h:=aa
 refine Jb1 ?_
 cases h
 exact Jw1 _ ⟨M,(s.1,s.2),G,H,I,F,R,O.wk R,am,an,R⟩<|KM R
 obtain⟨ch,h,aa⟩:=BI h;unfold lW at h
 have aq:=dct Y
 refine Jq<|Jh3 [2,2,2,2] 2 R<|Jo3 R U37 R R<|Jb 1 R<|Jw2 R aq<|Js<|Jp<|Jq<|Jv<|Jh3 [2,2,2,2,1,2,1] 3 R<|Ob h λdm a0 h=>Jd3 R x a0 U37 Z2 ?_
 have K:=x.stp (T4 f u N O)
 refine Jc3 R I2 (K.gInt a0)<|Ob h λcq a1 h=>Jd3 R aJ.rdc a1 U178 Z4<|Jc3 R I4 ((aJ.stp O).rdc.gBool a1)<|Jd<|Ob h λy h b2=>Jp3 [1,11,12] (λt m a=>∃b T U W Q,m=(6,.slice T y.1.length U)::(7,.slice W y.2.length Q)::t/\Stp [3,4] M ck b a/\Oc E6 2 b a 3 T U y.1/\Oc E6 2 b a 4 W Q y.2) ?_ ?_
 revert h
 cases cP:cq
 refine JF λh=>Jy R<|Ji3 [2,2,2,2,1,1,1,2] 3 R<|Ob h λcs a3 h=>Jd3 R K a3 U37 Z2<|Jc3 R I2 (K.gInt a3)<|Je4 M 21 [cs] R Y37 bS R λcE cG c8 bk af bL=>Tv<|Ob h λdp ce h=>Jz3 bk E6 4 [] R Y37 bS R (an.stp af) (Du (cc _) bL.rdc) bV ce R λbu bv c9 bl aD bM=>Tv<|Jc 1 R ?_
 cases h
 exact Jw1 _ ⟨bl,G,H,bu,bv,R,(af.tr aD).wk R,(am.stp<|af.tr aD),bM⟩<|KM R
 refine JT λh=>Jx R<|Ji3 [2,2,2,2,1,1,1,2] 3 R<|Ob h λcr a2 h=>Jd3 R K a2 U37 Z2<|Jc3 R I2 (K.gInt a2)<|Je4 M 21 [cr] R Y37 bS R λcJ cv c6 bi ae bJ=>Tv<|Ob h λdn cd h=>Jz3 bi E6 3 [] R Y37 bS R (am.stp ae) (Du (cc _) bJ.rdc) bV cd R λbt bw c7 bj aC bK=>Tv<|Jc 1 R ?_
 cases h
 exact Jw1 _ ⟨bj,bt,bw,I,F,R,(ae.tr aC).wk R,bK,(an.stp<|ae.tr aC)⟩<|KM R
 rintro _ c5 ⟨bh,T,U,W,Q,rfl,br,bH,bI⟩
 have h:=b2
 refine Jz<|Jp<|Jg3 R<|wr2 aX Y x.len_le ▸ ?_
 cases h
 exact Ja2 ⟨bh,B+1,(y.1,y.2),T,U,W,Q,R,(O.tr br).wk R,bH,bI,nxz aX,nxm Y,aa⟩ R
 rintro _ c4 ⟨bg,z,X,P,S,V,rfl,bq,bF,bG,rfl⟩
 have h:=yI b1
 refine Jp<|Jf3 R<|Ju<|Jb2 (l:=[.tmp 4,.tmp 5]) results190 (Jq2 R<|Jq2 R R) R ?_
 cases h
 exact⟨(λv=>ren [(3,2),(4,3)]<|bg v),X,P,S,V,R,((ap.stp<|T12 p n e c d q j k f u N bq).map (ren [(3,2),(4,3)]) R R),(bF.map (ren [(3,2),(4,3)]) R R),(bG.map (ren [(3,2),(4,3)]) R R)⟩
 refine JT λh=>Jx R<|Jf3 R<|Ju<|Jw<|Jb2 (l:=[.tmp 4,.tmp 5]) results190 (Jq2 R<|Jq2 R R) R ?_
 cases h
 exact⟨(λv=>ren [(3,2),(4,3)]<|aA v),ag,aj,ah,ai,R,((ap.stp<|T5 p n e c d).map (ren [(3,2),(4,3)]) R R),((ao.stp<|T3 e c d).map (ren [(3,2),(4,3)]) R R),((ak.stp<|c.tr d).map (ren [(3,2),(4,3)]) R R)⟩
theorem uj {p0:Sig}{aS aW aU aR}{p1:Machine}(bc:Rd Rs J w 0 aS aW p1.Next) (bd:Rd Rs J w 0 aU aR p1.Out){r:Machine}(h:la p0 p1=some r):Ret prog 32 [.agg #[vi p0.In,vi p0.Out],.agg #[.slice aS p1.Next.length aW,.slice aU p1.Out.length aR]] w (λc2 a=>∃(b:Col) (bs:Option Addr) (bu:Nat) (bt:Option Addr) (bv:Nat),c2= .agg #[.slice bs r.Next.length bu,.slice bt r.Out.length bv]/\Ent J w b a/\Oc (Dp E6 2) 37 b a 2 bs bu r.Next/\Oc (Dp E6 2) 37 b a 3 bt bv r.Out):=by
 unfold la at h
 refine Jl3 J func32 R ntmps32 R λbe=>Je [1,1,1] R<|Jt3 J 2 R λdm dJ bO K cx=>Tv<|Jt3 bO 3 R λdn d5 bR E a6=>Tv<|Ju3 bR 4 R X33 R λdp eb bD n a0=>Tv<|Jd<|Jq<|Je [1,1,2,2,1,1,1,2,2] R ?_
 have a1:=cx.stp (E.tr n)
 refine Jc4 tv R (Jd4 (haE a1.cells) I28 Z28 R)<|Ob h λc5 cR h=>Js3 R call82 (nq (J:=Mk bD) (p0:=p0) cR) ?_
 rintro _ c4 ⟨dz,rfl,cb⟩
 obtain⟨aI,e,dD⟩:=Ji cb 5 R
 refine Tv<|Jn 2 R<|Ob h λbp h cI=>Jg4 [3,4] 21 bp aI c4 [(4,1),(5,1),(6,1),(7,2),(8,2)] [] tv ?_ ?_
 revert h
 cases dv:(!c5)
 have aM:=(T4 K E n e)
 refine JF λh=>Jc4 tv R (Jd4 (haE (a1.stp e).cells) I28 Z28 R)<|Jc4 tv R (Jd4 (haE (a6.stp<|n.tr e).cells) I33 Z33 R)<|Ob h λec cS h=>Js3 R call83 (nV (J:=Mk aI) (p0:=p0) (p1:=p1) (Jj3<|bc.stp aM) (Jj3<|bd.stp aM) cS) ?_
 rintro _ d1 ⟨dA,rfl,ce⟩
 obtain⟨da,bU,dF⟩:=Ji ce 7 R
 refine Tv<|Jn 2 R ?_
 cases h
 exact Jv1 _ tv ⟨R,_,bU.wk R⟩<|KM R
 refine JT λh=>Ja4 R<|Ja4 R<|Ja4 R<|Jn 2 R ?_
 cases h
 exact Jh4 tv R
 rintro _ d2 _ ⟨rfl,aw,v⟩
 have h:=cI
 refine Jd ?_
 revert h
 cases dw:bp
 refine JF λh=>Jy R<|Js<|Jp<|Je [1,1,2] R ?_
 have a5:=a6.stp (T3 n e v)
 refine Jc4 tv R (Jd4 (haE a5.cells) I33 Z33 R)<|Ob h λbz cT h=>?_
 have aC:=bc.stp (T5 K E n e v)
 have aD:=bd.stp (T5 K E n e v)
 refine Js3 R call84 (qq (J:=Mk aw) (p0:=p1) (Jj3 aC) (Jj3 aD) cT) ?_
 rintro _ d4 ⟨dB,dd,db,rfl,cf,cz⟩
 obtain⟨bP,L,c0⟩:=Ji cf 7 R
 refine Tv<|?_
 have ap:=cz.mx (bZ _) c0 R (R:7+2=9)
 refine Jb 1 R<|Jh3 [2,2,1,1,2] 1 R<|Ob h λbA bh h=>Jd3 R ap.rdc bh U37 Z2<|Jc3 R I2 (ap.rdc.gInt bh)<|Je4 bP 10 [bA] R Y37 bS R λb6 b5 d6 bQ D cA=>Tv<|Jb 1 R<|Je [2,1,1] R<|Jf R (Jj4 [.slice none 0 0,.slice none 0 0] R)<|Ju3 bQ 11 R X33 R λaX d7 U x cB=>Tv<|Ji4 U 11 R Z33 R cB R λbw y cC=>Tv<|Jd<|Jq<|Jf3 R<|Ob h λbq cO cJ=>?_
 clear h
 refine Jp3 [4,7] (λi j a=>∃b,∃z:VI×Int×VV×VV,∃aT aV ad ag Z ai,j=i/\Stp [10,11,12,13,14,15,16,17] U bw b a/\Oc E6 2 b a 10 aT aV z.1/\Oc (Dp E6 2) 37 b a 12 ad ag z.2.2.1/\Oc (Dp E6 2) 37 b a 13 Z ai z.2.2.2/\Bc b a 11 aX 33 [.slice ad z.2.2.1.length ag,.slice Z z.2.2.2.length ai]/\bq=Dv z) ?_ ?_
 refine Jv<|Jq3 [3,4,5,7] (λg i j a=>∃b,∃c:VI×Int×VV×VV,∃N P al aj S M,j=(6,.slice N c.1.length P)::(8,vi c.2.1)::i/\Stp [10,11,12,13,14,15,16,17] U bw b a/\Oc E6 2 b a 10 N P c.1/\Oc (Dp E6 2) 37 b a 12 al aj c.2.2.1/\Oc (Dp E6 2) 37 b a 13 S M c.2.2.2/\Bc b a 11 aX 33 [.slice al c.2.2.1.length aj,.slice S c.2.2.2.length M]/\cd (dE p1 bz) g c=some bq) ⟨_,_,⟨U,((([bA]:VI):VI),(0:Int),([]:VV),([]:VV)),b6,b5,none,0,none,0,R,Jk3,(cA.stp<|x.tr y),Dt,Dt,cC,cO⟩,(KM R)⟩ ?_
 rintro g _ d9 ⟨aL,c,N,P,al,aj,S,M,rfl,F,aE,a7,a8,a9,h⟩
 rcases g with _|g
 cases h
 obtain⟨dG,h,bg⟩:=BI h;unfold dE at h
 refine Jq<|Jh3 [2,2,2,2] 2 R<|Jo3 R U37 R R<|Jb 1 R ?_
 revert h
 cases dx:decide (c.2.1<(c.1.length:Int))
 refine JF λh=>Jy R<|Jc1<|Jt<|Jt ?_
 cases h
 have h:=bg
 refine Jb1 ?_
 cases h
 exact Jw1 _ ⟨aL,(c.1,c.2.1,c.2.2.1,c.2.2.2),N,P,al,aj,S,M,R,F.wk R,aE,a7,a8,a9,R⟩<|KM R
 refine JT λh=>Jx R<|Js<|Jp<|Jq<|Jv<|Je [1,2] R<|Jy3 aL E6 14 R Y37 bS R λb4 b3 ea V k cG=>Tv<|Jb 1 R<|Jq<|Jq<|Js1 (J:=V) [0,3,10] none [(0,2),(2,2),(3,2),(4,2),(9,2),(1,0),(5,0),(6,2),(7,0),(8,2)] [] (by kernel_rfl) (by kernel_rfl) λbx f=>Je3 R U33 R Z31<|Jn 2 R<|Ob h λed bi h=>Jd3 R aE.rdc bi U37 Z2<|Jn 1 R ?_
 have ba:=a5.stp (T7 L D x y F k f)
 refine Jg R (Jd2 I31 R R<|hvC (ba.ld 0 R R) R) ?_
 have bb:=aE.stp (k.tr f)
 refine Jg R (Jd2 I2 R R<|hvC (bb.rdc.gInt bi) R)<|Ob h λbB bj h=>Jd3 R aC bj U31 Z37 ?_
 obtain⟨dk,dH,aF,cN⟩:=(aC.stp (T7 L D x y F k f)).gSl bj
 refine Jg R (Jd2 I37 R R<|hvC cN R)<|Jo3 R U37 R R<|Jt1<|Jd<|Ob h λbr cP cK=>?_
 clear h
 refine Jp3 [3,4,5,7,8] (λi j a=>∃b,∃m:VI×VI,∃an ab ac ak,j=(6,.slice an m.1.length ab)::(9,.slice ac m.2.length ak)::i/\Stp [10,14] V bx b a/\Oc E6 2 b a 10 an ab m.1/\Oc E6 2 b a 14 ac ak m.2/\br=Dv m) ?_ ?_
 refine Jv<|Jq3 [3,4,5,7,8,44,45] (λg i j a=>∃b q,∃p:VI×VI,∃Q O am aa,j=(6,.slice Q p.1.length O)::(9,.slice am p.2.length aa)::(46,vi q)::i/\Stp [10,14] V bx b a/\Oc E6 2 b a 10 Q O p.1/\Oc E6 2 b a 14 am aa p.2/\0<=q/\Dq ((bB.length:Int)-q)=g/\cntM (ir bz bB) g q p=some br) ⟨_,_,⟨V,0,(c.1,([]:VI)),N,P,b4,b3,R,Jk3,bb,(cG.stp f),(by decide),(by simp),cP⟩,(KM R)⟩ ?_
 rintro g _ dL ⟨aH,q,p,Q,O,am,aa,rfl,W,ao,aZ,cL,bf,h⟩
 rcases g with _|g
 have aq:=h;obtain⟨c1,h⟩:=exq aq
 have G:=dcf bf
 refine Jf3 R<|Jq<|Jx2 R G<|Jc1<|Jt<|Jt ?_
 cases h
 have h:=aq
 refine Jb1 ?_
 cases h
 exact Jw1 _ ⟨aH,(p.1,p.2),Q,O,am,aa,R,W.wk R,ao,aZ,R⟩<|KM R
 obtain⟨c1,h,aq⟩:=BI h;unfold ir at h
 have G:=dct bf
 refine Jf3 R<|Jq<|Jw2 R G<|Js<|Jp<|Jq<|Jv<|Je [2,1,2] R<|Ob h λee bk h=>Jd3 R aF bk U37 Z2<|Jc3 R I2 ((aF.stp W).gInt bk)<|Jb 1 R<|Jh3 [2,2,2,2,1,1,2] 3 R<|Ob h λef bl h=>Jd3 R ap.rdc bl U37 Z2 ?_
 have aB:=ap.stp (T7 D x y F k f W)
 refine Jc3 R I2 (aB.rdc.gInt bl)<|Ob h λc6 cU h=>Js3 R call49 (fG (J:=Mk aH) (Jj3 ao.rdc) cU) ?_
 rintro _ c3 ⟨dy,rfl,ca⟩
 obtain⟨au,H,dC⟩:=Ji ca 15 R
 refine Tv<|Jb 1 R<|Jq<|Jf3 R<|Ob h λT h cH=>Jp3 [3,4,5,7,8,9,44,45,46] (λi j a=>∃b ae ah,j=(6,.slice ae T.1.length ah)::(12,vi T.2)::i/\Stp [10] au c3 b a/\Oc E6 2 b a 10 ae ah T.1) ?_ ?_
 revert h
 cases du:decide (c6<0)
 refine JF λh=>Jy R<|Js ?_
 cases h
 exact Jw1 _ ⟨au,Q,O,R,Jk3,(ao.stp H)⟩<|KM R
 refine JT λh=>Jx R<|Jh3 [2,2,2] 1 R<|Jo3 R U37 R R<|Jb 1 R<|Ji3 [2,2,2,2,1,1,1,2] 3 R<|Ob h λc7 bm h=>Jd3 R aB.rdc bm U37 Z2<|Jc3 R I2 ((aB.stp H).rdc.gInt bm)<|Je4 au 17 [c7] R Y37 bS R λdr dh dN bG aO cj=>Tv<|Ob h λeg cV h=>Jz3 bG E6 10 [] R Y37 bS R (ao.stp<|H.tr aO) (Du (cc _) cj.rdc) bV cV R λb2 b1 dO bH bT ck=>Tv<|Jc 1 R ?_
 cases h
 exact Jw1 _ ⟨bH,b2,b1,R,(aO.tr bT).wk R,ck⟩<|KM R
 rintro _ dM ⟨bF,ae,ah,rfl,aN,ci⟩
 have h:=cH
 refine Jp<|Ji3 [2,2,1,1,2] 2 R<|Je4 bF 17 [T.2] R Y37 bS R λdg dc dP bI ax cl=>Tv<|Ob h λc8 cW h=>Jz3 bI E6 14 [] R Y37 bS R (aZ.stp<|T3 H aN ax) (Du (cc _) cl.rdc) bV cW R λb8 b0 dQ bJ aP cm=>Tv<|Jc 1 R<|Jz<|Jp<|Jg3 R ?_
 have cQ:Dr .i64 (q+1)=q+1:=wr1 cL (Jn2 G) aF.len_le
 rw[cQ]
 have G:=Jn2 G
 cases h
 exact Ja2 ⟨bJ,q+1,(T.1,c8),ae,ah,b8,b0,R,(T5 W H aN ax aP).wk R,(ci.stp<|ax.tr aP),cm,by omega,by omega,aq⟩ R
 rintro _ dK ⟨bE,m,an,ab,ac,ak,rfl,A,aY,ch,rfl⟩
 have h:=yI cK
 refine Jp<|Je [2,1,2,1,1,2,1] R<|Je3 R U33 R Z31 ?_
 have a2:=a9.stp (T3 k f A)
 refine Jc3 R I31 (a2.ld 0 R R)<|Jn 1 R<|Jx3 bE (Dp E6 2) 15 [14] (parts:=[(0,.tmp 74)]) (cells:=[.slice ac m.2.length ak]) (xs:=([m.2]:VV)) R Y31 bW R (Jf4 ⟨_,_,R,ch⟩) λdj df dR bK s cn=>Tv<|Ob h λar cX h=>Jz3 bK (Dp E6 2) 12 [15] R Y31 bW R (a7.stp<|T4 k f A s) cn.src (c9 R) cX R λY af dS av B co=>Tv<|Je3 R U33 R Z31<|Jv3 av 11 (off:=0) (vc:=[.slice Y ar.length af]) (cs':=[.slice Y ar.length af,.slice S c.2.2.2.length M]) R Z31 R (a2.stp<|s.tr B) R λdT C cp=>Tv<|Jd<|Js1 (J:=av) [0,3,10,11] (some 15) [(0,2),(3,2),(5,2),(6,2),(7,2),(1,0),(4,0),(8,0),(9,2),(10,0),(2,1),(11,1),(12,1),(13,1),(14,2)] [(15,1)] (by kernel_rfl) (by kernel_rfl) λdU t=>Je3 R U33 R Z31<|Je3 R U33 R Z31<|Jn 2 R<|Ob h λeh bn h=>Jd3 R aY.rdc bn U37 Z2 ?_
 have a3:=cp.stp t
 refine Jg R (Jd2 I31 R R<|hvC (a3.ld 1 R R) R)<|Jg R (Jd2 I31 R R<|hvC ((ba.stp<|T5 A s B C t).ld 1 R R) R) ?_
 have a4:=aY.stp (T4 s B C t)
 refine Jg R (Jd2 I2 R R<|hvC (a4.rdc.gInt bn) R)<|Ob h λei bo h=>Jd3 R aD bo U31 Z37 ?_
 obtain⟨dl,dI,cq,cM⟩:=(aD.stp (T12 L D x y F k f A s B C t)).gSl bo
 refine Jg R (Jd2 I37 R R<|hvC cM R)<|Jy3 av E6 16 R Y37 bS R λds di dV bL d cr=>⟨(d.cl R),Ob h λbC cY h=>Jz3 bL E6 16 [] R Y37 bS R cr (Du (cc _)<|cq.stp d) bV cY R λbY b7 dW bM o cs=>⟨((d.tr o).cl R),Jx3 bM (Dp E6 2) 17 [16] (parts:=[(0,.tmp 89)]) (cells:=[.slice bY bC.length b7]) (xs:=([bC]:VV)) R Y31 bW R (Jf4 ⟨_,_,R,cs⟩) λde dq dX bN u ct=>⟨((T3 d o u).cl R),Ob h λaG cZ h=>Jz3 bN (Dp E6 2) 13 [17] R Y31 bW R (a8.stp<|T10 k f A s B C t d o u) ct.src (c9 R) cZ R λaA az dY aJ I cu=>⟨((T4 d o u I).cl R),Je3 R U33 R Z31<|Jt1<|Jv3 aJ 11 (off:=1) (vc:=[.slice aA aG.length az]) (cs':=[.slice Y ar.length af,.slice aA aG.length az]) R Z31 R (a3.stp<|T4 d o u I) R λdZ X cv=>Tv<|Jo<|Jz<|Jp<|Jg3 R ?_⟩⟩⟩⟩
 cases h
 exact Ja2 ⟨aJ,(m.1,((Dr .i64<|c.2.1+1):Int),ar,aG),an,ab,Y,af,aA,az,R,(T13 F k f A s B C t d o u I X).wk R,(a4.stp<|T5 d o u I X),(co.stp<|T7 C t d o u I X),(cu.stp X),cv,bg⟩ R
 rintro _ d8 ⟨aK,z,aT,aV,ad,ag,Z,ai,rfl,aQ,dt,cD,cE,cF,rfl⟩
 have h:=yI cJ
 refine Jp<|Je [1,1] R<|Jc4 tv R (Jd4 (haE cF.cells) I33 Z33 R)<|Ji4 aK 4 R Z33 R (a0.stp<|T7 e v L D x y aQ) R λd0 ay cw=>Tv<|Jd<|Ju<|Jb2 (l:=[.cell 4 33]) results32 (cg R cw I33 Z33 R R) R ?_
 cases h
 exact⟨(λb9=>ren [(12,2),(13,3)]<|aK b9),ad,ag,Z,ai,R,((be.stp<|T11 K E n e v L D x y aQ ay).map (ren [(12,2),(13,3)]) R R),((cD.stp ay).map (ren [(12,2),(13,3)]) R R),((cE.stp ay).map (ren [(12,2),(13,3)]) R R)⟩
 refine JT λh=>Jx R<|Je [2,1] R<|Jf R (Jj4 [.slice none 0 0,.slice none 0 0] R)<|Ji4 aw 4 R Z33 R (a0.stp<|e.tr v) R λd3 bX cy=>Tv<|Jd<|Ju<|Jw<|Jb2 (l:=[.cell 4 33]) results32 (cg R cy I33 Z33 R R) R ?_
 cases h
 exact⟨aw,none,0,none,0,R,(be.stp<|T6 K E n e v bX),Dt,Dt⟩
end
end Go.Proofs.YtleekpaohfpooaaGreat
