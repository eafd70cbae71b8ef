/- The walks, part 3. By program. -/
import Derived.Test.YtleekpaohfpooaaGreatFns0MD
import Derived.Test.YtleekpaohfpooaaGreatFns1MD
set_option linter.unusedVariables false
set_option linter.unusedSimpArgs false
open Go.Wk.Ep renaming bool → Do
open Int renaming toNat → Dq
open Go.IntKind renaming wrap → Dr
open Option.some renaming inj → Ds
open Sum renaming inr → Dv
namespace Go.Proofs.YtleekpaohfpooaaGreat
open Tryz
open Go Go.Wk Go.Proofs
set_option maxRecDepth 100000
set_option maxHeartbeats 1000000
section
variable {w:World}{J:Col}
theorem cj {a b}{p0:VI}{p1:Int}(f:Rd Ri J w 0 a b p0){r:Bool}(h:bY p0 p1=some r):Ret prog 89 [.slice a p0.length b,vi p1] w (Pvb J w r):=by
 unfold bY at h
 refine Jl3 J func89 R ntmps89 R λg=>Jf3 R<|Jh3 [2,2,1,2,2] 2 R<|Ob h λn i h=>Js3 R call49 (fG (J:=Mk J) (Jj3 f) i) ?_
 rintro _ m ⟨j,rfl,e⟩
 obtain⟨c,d,k⟩:=Ji e 2 R
 refine Tv<|Jb 2 R<|Ju<|Jb2 (l:=[.tmp 4]) results89 (Jq2 R R) R ?_
 cases h
 exact⟨c,R,(g.stp d)⟩
theorem rX {e f}{p0:Place}{c0:Int}{d k}{b:VI}{g i}(q:Rd Ri J w 0 e f p0.Record) (s:Rd Ri J w 0 d k b) (t:Bc J w 0 g 2 [vi c0]) (u:Bc J w 0 i 37 [.slice d b.length k]){r:Bool}(h:kq p0 c0 b=some r):Ret prog 242 [.agg #[vi p0.At,.slice e p0.Record.length f],.pointer (some ⟨g,0,none⟩),.pointer (some ⟨i,0,none⟩)] w (Pvb J w r):=by
 unfold kq at h
 refine Jl3 J func242 R ntmps242 R λv=>Je [1,2] R<|Jt3 J 2 R λC A c a j=>Tv<|Jb 1 R<|Je [2,1,1,2,2,2,1,1,1,2,2] R<|Je3 R U88 R Z2<|Jc3 R I2 (j.ld 0 R R)<|Jc3 R I2 ((t.stp a).ld 0 R R)<|Jn 2 R<|Ob h λz h x=>Jg4 [1,2,4] 14 z c A [(5,2),(6,1),(7,1),(8,1),(9,2)] [(10,2)] tv ?_ ?_
 revert h
 cases D:(p0.At==c0)
 refine JF λh=>Jn 1 R<|Ja4 R<|Ja4 R<|Ja4 R<|Jn 1 R ?_
 cases h
 exact Jh4 tv R
 refine JT λh=>Je3 R U88 R Z37<|Jc3 R I37 (j.ld 1 R R)<|Jc3 R I37 ((u.stp a).ld 0 R R)<|Ob h λI y h=>Js3 R call160 (fF (J:=Mk c) (Jj3<|q.stp a) (Jj3<|s.stp a) y) ?_
 rintro _ G ⟨E,rfl,p⟩
 obtain⟨B,n,F⟩:=Ji p 3 R
 refine Tv<|Jn 1 R ?_
 cases h
 exact Jv1 _ tv ⟨R,_,n.wk R⟩<|KM R
 rintro _ H _ ⟨rfl,m,o⟩
 have h:=x
 refine Jb 1 R<|Ju<|Jb2 (l:=[.tmp 4]) results242 (Jq2 R R) R ?_
 cases h
 exact⟨m,R,(v.stp<|a.tr o)⟩
theorem rS {s u p q}{p0:Arena}(O:Rd Ri J w 0 s u p0.Owner) (P:Rd Rs J w 0 p q p0.Next){r:Arena}(h:kl p0=some r):Ret prog 268 [.agg #[.slice s p0.Owner.length u,.slice p p0.Next.length q]] w (λV i=>∃(j:Col) (x:Option Addr) (z:Nat) (y:Option Addr) (A:Nat),V= .agg #[.slice x r.Owner.length z,.slice y r.Next.length A]/\Ent J w j i/\Oc E6 2 j i 2 x z r.Owner/\Oc (Ep.own E6 2) 37 j i 3 y A r.Next):=by
 unfold kl at h
 refine Jl3 J func268 R ntmps268 R λQ=>Je [1,1] R<|Jt3 J 2 R λZ ad E g M=>Tv<|Ju3 E 3 R X75 R λaa aj m f N=>Tv<|Jd<|Jq<|Js1 (J:=m) [2] none [(1,2),(4,2),(2,0),(5,0),(0,1),(3,1),(6,1),(7,2),(8,1)] [] (by kernel_rfl) (by kernel_rfl) λae d=>Je3 R U75 R Z37<|Je3 R U75 R Z31 ?_
 have v:=M.stp (f.tr d)
 refine Jg R (Jd2 I37 R R<|hvC (v.ld 0 R R) R)<|Jg R (Jd2 I31 R R<|hvC (v.ld 1 R R) R)<|Jy3 m E6 4 R Y37 bS R λY ac af C a H=>⟨(a.cl R),Ob h λW S h=>Jz3 C E6 4 [] R Y37 bS R H (Sl.srcP (cc _)<|O.stp<|T4 g f d a) bV S R λn B ag D b I=>⟨((a.tr b).cl R),Ob h λX T h=>Js3 R call283 (rT (J:=Mk D) (Jj3<|P.stp<|T5 g f d a b) T) ?_⟩⟩
 rintro _ ah ⟨ab,t,o,rfl,G,K⟩
 obtain⟨k,c,U⟩:=Ji G 5 R
 refine⟨((T3 a b c).cl R),Jf R (Jj4 [.slice n W.length B,.slice t X.length o] R)<|Ji4 k 3 R Z75 R (N.stp<|T4 d a b c) R λai e L=>⟨((T4 a b c e).cl R),Jt1<|Jd<|Ju<|Jb2 (l:=[.cell 2 75]) results268 (cg R L I75 Z75 R R) R ?_⟩⟩
 cases h
 exact⟨(λF=>ren [(4,2),(7,3)]<|k F),n,B,t,o,R,((Q.stp<|T7 g f d a b c e).map (ren [(4,2),(7,3)]) R R),((I.stp<|c.tr e).map (ren [(4,2),(7,3)]) R R),(((K.mx (cQ (bZ _) _) U R (R:5+2=7)).stp e).map (ren [(4,2),(7,3)]) R R)⟩
theorem fJ {q z}{p0:VI}{c1_0:Int}{s}(i:Rd Ri J w 0 q z p0) (D:Bc J w 0 s 2 [vi c1_0]){r:Int}(h:cE p0 c1_0=some r):Ret prog 47 [.slice q p0.length z,.func (.func 217) #[] #[.pointer (some ⟨s,0,none⟩)]] w (Pvi J w r):=by
 unfold cE at h
 refine Jl3 J func47 R ntmps47 R λt=>Jf3 R<|Jq<|Jh3 [2,2,2] 1 R<|Jo3 R U37 R R<|Jb 1 R<|Ob h λy E u=>?_
 clear h
 refine Jp3 [1] (λf g k=>∃m,g=f/\Stp [] J w m k/\y=Dv ()) ?_ ?_
 refine Jv<|Jq3 [0,1,7] (λd f g k=>∃m a,g=(8,vi a)::f/\Stp [] J w m k/\0<=a/\Dq ((p0.length:Int)-a)=d/\cntM (cC p0 c1_0) d a ()=some y) ⟨_,_,⟨J,0,R,Jk3,(by decide),(by simp),E⟩,(KM R)⟩ ?_
 rintro d _ O ⟨o,a,rfl,b,v,e,h⟩
 rcases d with _|d
 have c:=h;obtain⟨G,h⟩:=exq c
 have j:=dcf e
 refine Jf3 R<|Jq<|Jx2 R j<|Jc1<|Jt<|Jt ?_
 cases h
 have h:=c
 refine Jb1 ?_
 cases h
 exact Jw1 _ ⟨o,R,b.wk R,R⟩<|KM R
 obtain⟨G,h,c⟩:=BI h;unfold cC at h
 have j:=dct e
 refine Jf3 R<|Jq<|Jw2 R j<|Js<|Jp<|Jq<|Jv<|Jf3 R<|Jh3 [2,2,2,2,1,1] 3 R<|Ob h λP x h=>Jd3 R i x U37 Z2<|Jc3 R I2 ((i.stp b).gInt x)<|Ob h λH F h=>WO.callV R R R R R R R R call217 (pR (J:=Mk o) ((D.stp b).map (mp [] 0) R R) F) ?_
 rintro _ M ⟨K,rfl,C⟩
 obtain⟨n,p,L⟩:=Ji C 2 R
 refine Tv<|Jd ?_
 revert h
 cases I:H
 refine JF λh=>Jy R<|Js<|Jz<|Jp<|Jg3 R<|wr2 v e i.len_le ▸ ?_
 cases h
 exact Ja2 ⟨n,a+1,R,(b.tr p).wk R,nxz v,nxm e,c⟩ R
 refine JT λh=>Jx R<|Jf3 R<|Ju<|Ja1<|Jw<|Jw ?_
 cases h
 obtain rfl:=Ds c
 have h:=yL u
 refine Ja1<|Jr2<|Jw<|Jb2 (l:=[.tmp 4]) results47 (Jq2 R R) R ?_
 cases h
 exact⟨n,R,(t.stp<|b.tr p)⟩
 rintro _ N ⟨A,rfl,B,rfl⟩
 have h:=yI u
 refine Jp<|Jf3 R<|Ju<|Jb2 (l:=[.tmp 4]) results47 (Jq2 R R) R ?_
 cases h
 exact⟨A,R,(t.stp B)⟩
theorem uU {v F}{p0:VI}{p1:Int}(m:Rd Ri J w 0 v F p0){r:Bool}(h:mX p0 p1=some r):Ret prog 215 [.slice v p0.length F,vi p1] w (Pvb J w r):=by
 unfold mX at h
 refine Jl3 J func215 R ntmps215 R λx=>Jf3 R<|Jq<|Jf3 R<|Ob h λE O y=>?_
 clear h
 refine Jx1 (λj o=>∃p,j=[]/\Stp [] J w p o/\E=Dv ()) ?_ ?_
 refine Jv<|Jq3 [0,1] (λe H j o=>∃p b,j=(5,vi b)::H/\Stp [] J w p o/\0<=b/\Dq ((p0.length:Int)-b)=e/\cntM (jL p0 p1) e b ()=some E) ⟨_,_,⟨J,0,R,Jk3,(by decide),(by simp),O⟩,(KM R)⟩ ?_
 rintro e _ ae ⟨i,b,rfl,f,z,g,h⟩
 rcases e with _|e
 have d:=h;obtain⟨Q,h⟩:=exq d
 have n:=dcf g
 refine Jq<|Jh3 [2,2,2,2] 2 R<|Jo3 R U37 R R<|Jb 1 R<|Jx2 R n<|Jc1<|Jt<|Jt ?_
 cases h
 have h:=d
 refine Jb1 ?_
 cases h
 exact Jw1 _ ⟨i,R,f.wk R,R⟩ KN
 obtain⟨Q,h,d⟩:=BI h;unfold jL at h
 have n:=dct g
 refine Jq<|Jh3 [2,2,2,2] 2 R<|Jo3 R U37 R R<|Jb 1 R<|Jw2 R n<|Js<|Jp<|Jq<|Jv<|Jq<|Js1 (J:=i) [0] none [(0,2),(1,2),(2,2),(4,2),(5,2),(3,0),(6,1),(7,2),(8,2),(9,2),(10,2),(11,2),(12,2),(13,2),(14,2),(16,2),(17,2),(18,2),(19,2),(15,0),(20,0),(21,2),(22,2),(23,2)] [] (by kernel_rfl) (by kernel_rfl) λaa k=>Jn 2 R<|Ob h λaf A h=>Jd3 R m A U37 Z2<|Jn 2 R ?_
 have c:=m.stp (f.tr k)
 refine Jg R (Jd2 I2 R R<|hvC (c.gInt A) R)<|Ob h λT P h=>Js3 R C59 (dD (J:=Mk i) P) ?_
 rintro _ G ⟨Y,rfl,L⟩
 obtain⟨q,a,Z⟩:=Ji L 2 R
 refine⟨(a.cl R),Jn 2 R<|Ob h λD h M=>Jg4 [0,1,5] 35 D q G [(9,2),(10,2),(11,2),(12,2),(13,2),(14,2),(16,2),(17,2),(18,2),(19,2),(15,0),(20,0),(21,2),(22,2),(23,2)] [] (a.cl R) ?_ ?_⟩
 revert h
 cases V:(!T)
 refine JF λh=>Jn 3 R<|Ob h λS h N=>Jg4 [0,1,5,20,21,22,23] 34 S q G [(12,2),(13,2),(14,2),(16,2),(17,2),(18,2),(19,2),(15,0),(20,0),(21,2),(22,2)] [(23,2)] (a.cl R) ?_ ?_
 revert h
 cases W:decide (0<b)
 refine JF λh=>Jn 7 R<|Jb4 R<|Jb4 R<|Jn 2 R ?_
 cases h
 exact Jv1 _ (a.cl R) ⟨R,_,Jk3⟩<|KM R
 refine JT λh=>Jn 2 R<|Ob h λag B h=>Jd3 R c B U37 Z2<|Jn 3 R<|Ob h λah C h=>Jd3 R c C U37 Z2<|Jg R (Jd2 I2 R R<|hvC (c.gInt B) R)<|Jg R (Jd2 I2 R R<|hvC (c.gInt C) R)<|Jn 2 R ?_
 cases h
 exact Jv1 _ (a.cl R) ⟨R,_,Jk3⟩<|KM R
 rintro _ ab _ ⟨rfl,U,t⟩
 have h:=N
 refine Jn 1 R ?_
 cases h
 exact Jv1 _ ((a.tr t).cl R) ⟨R,_,t.wk R⟩<|KM R
 refine JT λh=>Jn 10 R<|Jb4 R<|Jb4 R<|Jn 3 R ?_
 cases h
 exact Jv1 _ (a.cl R) ⟨R,_,Jk3⟩<|KM R
 rintro _ ac _ ⟨rfl,s,u⟩
 have h:=M
 refine Jt1<|Jd ?_
 revert h
 cases X:D
 refine JF λh=>Jy R<|Js<|Jz<|Jp<|Jg3 R<|wr2 z g m.len_le ▸ ?_
 cases h
 exact Ja2 ⟨s,b+1,R,(T4 f k a u).wk R,nxz z,nxm g,d⟩ R
 refine JT λh=>Jx R<|Jf3 R<|Ju<|Ja1<|Jw<|Jw ?_
 cases h
 obtain rfl:=Ds d
 have h:=yL y
 refine Ja1<|Jr2<|Jw<|Jb2 (l:=[.tmp 4]) results215 (Jq2 R R) R ?_
 cases h
 exact⟨s,R,(x.stp<|T4 f k a u)⟩
 rintro _ ad ⟨I,rfl,K,rfl⟩
 have h:=yI y
 refine Jp<|Jf3 R<|Ju<|Jb2 (l:=[.tmp 4]) results215 (Jq2 R R) R ?_
 cases h
 exact⟨I,R,(x.stp K)⟩
theorem uW {k m o n}{p0:Clause}{p1:Int}{p2:Int}(O:Rd Ri J w 0 k m p0.A) (P:Rd Ri J w 0 o n p0.B){r:Int}(h:mY p0 p1 p2=some r):Ret prog 189 [.agg #[vi p0.Kind,.slice k p0.A.length m,.slice o p0.B.length n],vi p1,vi p2] w (Pvi J w r):=by
 unfold mY at h
 refine Jl3 J func189 R ntmps189 R λg=>Je [1,2] R<|Jt3 J 2 R λad aE v c q=>Tv<|Jb 1 R<|Je [2,1,2,1,1,2] R<|Je3 R U67 R Z37<|Jc3 R I37 (q.ld 1 R R)<|Jn 1 R<|Ob h λaN T h=>Js3 R call81 (i9 (J:=Mk v) (Jj3<|O.stp c) T) ?_
 rintro _ aK ⟨av,rfl,N⟩
 obtain⟨B,a,ax⟩:=Ji N 3 R
 refine Tv<|Ob h λaO U h=>Js3 R call192 (oo (J:=Mk B) U) ?_
 rintro _ aF ⟨ao,rfl,G⟩
 obtain⟨u,b,ay⟩:=Ji G 5 R
 refine Tv<|Jb 1 R<|Je [2,1,2,1,1,2] R<|Je3 R U67 R Z37 ?_
 have p:=q.stp (a.tr b)
 refine Jc3 R I37 (p.ld 2 R R)<|Jn 1 R<|Ob h λaP V h=>Js3 R call81 (i9 (J:=Mk u) (Jj3<|P.stp<|T3 c a b) V) ?_
 rintro _ aG ⟨ap,rfl,H⟩
 obtain⟨x,d,az⟩:=Ji H 7 R
 refine Tv<|Ob h λab W h=>Js3 R call192 (oo (J:=Mk x) W) ?_
 rintro _ t ⟨aq,rfl,I⟩
 obtain⟨f,e,aA⟩:=Ji I 9 R
 refine Tv<|Jb 1 R<|Jq<|Je [2,1] R<|Je3 R U67 R Z2<|Jc3 R I2 ((p.stp<|d.tr e).ld 0 R R)<|Jd<|Jv<|Jf3 R ?_
 revert h
 cases ae:(p0.Kind==1)
 refine JF λh=>Jy R<|Jf3 R ?_
 revert h
 cases af:(p0.Kind==2)
 refine JF λh=>Jy R<|Jf3 R ?_
 revert h
 cases aj:(p0.Kind==3)
 refine JF λh=>Jy R<|Jf3 R ?_
 revert h
 cases al:(p0.Kind==4)
 refine JF λh=>Jy R<|Jf3 R ?_
 revert h
 cases am:(p0.Kind==5)
 refine JF λh=>Jy R<|Jf3 R ?_
 revert h
 cases an:(p0.Kind==6)
 refine JF λh=>Jy R<|Js<|Jz<|Jp<|Jf3 R<|Ju<|Jb2 (l:=[.tmp 6]) V189 (Jq2 R R) R ?_
 cases h
 exact⟨f,R,(g.stp<|T5 c a b d e)⟩
 refine JT λh=>Jx R<|Jh3 [2,2,1,2] 2 R<|Ob h λaS Z h=>Js3 R call247 (nv (J:=Mk f) Z) ?_
 rintro _ aM ⟨aw,rfl,M⟩
 obtain⟨A,F,aD⟩:=Ji M 11 R
 refine Tv<|Jb 1 R<|Ju<|Ja1<|Jw<|Jb2 (l:=[.tmp 6]) V189 (Jq2 R R) R ?_
 cases h
 exact⟨A,R,(g.stp<|T6 c a b d e F)⟩
 refine JT λh=>Jx R<|Jf3 R<|Ju<|Ja1<|Jw<|Jb2 (l:=[.tmp 6]) V189 (Jq2 R R) R ?_
 cases h
 exact⟨f,R,(g.stp<|T5 c a b d e)⟩
 refine JT λh=>Jx R<|Jf3 R<|Ju<|Ja1<|Jw<|Jb2 (l:=[.tmp 6]) V189 (Jq2 R R) R ?_
 cases h
 exact⟨f,R,(g.stp<|T5 c a b d e)⟩
 refine JT λh=>Jx R<|Jq<|Jf3 R ?_
 revert h
 cases ak:(ab==1)
 refine JF λh=>Jy R<|Js<|Jp<|Jh3 [2,2,1,2] 2 R<|Ob h λaR Y h=>Js3 R call247 (nv (J:=Mk f) Y) ?_
 rintro _ aL ⟨au,rfl,L⟩
 obtain⟨z,E,aC⟩:=Ji L 11 R
 refine Tv<|Jb 1 R<|Ju<|Ja1<|Jw<|Jb2 (l:=[.tmp 6]) V189 (Jq2 R R) R ?_
 cases h
 exact⟨z,R,(g.stp<|T6 c a b d e E)⟩
 refine JT λh=>Jx R<|Jf3 R<|Ju<|Jw<|Ja1<|Jw<|Jb2 (l:=[.tmp 6]) V189 (Jq2 R R) R ?_
 cases h
 exact⟨f,R,(g.stp<|T5 c a b d e)⟩
 refine JT λh=>Jx R<|Jq<|Jh3 [2,2,2,2,2,2,2,2,2,2] 3 R<|Ob h λs h Q=>Jg4 [7] 38 s f t [(3,2),(4,2),(5,2),(6,2),(7,2),(8,2),(9,2)] [] tv ?_ ?_
 revert h
 cases ag:(p1==2)
 refine JF λh=>Jn 3 R<|Ob h λaa h S=>Jg4 [7,31] 37 aa f t [(6,2),(7,2),(8,2)] [(9,2)] tv ?_ ?_
 revert h
 cases ah:(p1==1)
 refine JF λh=>Jn 3 R ?_
 cases h
 exact Jh4 tv R
 refine JT λh=>Jn 3 R ?_
 cases h
 exact Jh4 tv R
 rintro _ aI _ ⟨rfl,ac,D⟩
 have h:=S
 refine Jn 1 R ?_
 cases h
 exact Jv1 _ tv ⟨R,_,D.wk R⟩<|KM R
 refine JT λh=>Jn 7 R ?_
 cases h
 exact Jh4 tv R
 rintro _ aJ _ ⟨rfl,i,j⟩
 have h:=Q
 refine Jd ?_
 revert h
 cases ai:s
 refine JF λh=>Jy R<|Js<|Jp<|Jf3 R<|Ju<|Ja1<|Jw<|Jb2 (l:=[.tmp 6]) V189 (Jq2 R R) R ?_
 cases h
 exact⟨i,R,(g.stp<|T6 c a b d e j)⟩
 refine JT λh=>Jx R<|Jf3 R<|Ju<|Jw<|Ja1<|Jw<|Jb2 (l:=[.tmp 6]) V189 (Jq2 R R) R ?_
 cases h
 exact⟨i,R,(g.stp<|T6 c a b d e j)⟩
 refine JT λh=>Jx R<|Jh3 [2,2,2,1,2] 3 R<|Ob h λaQ X h=>Js3 R call247 (nv (J:=Mk f) X) ?_
 rintro _ aH ⟨ar,rfl,K⟩
 obtain⟨y,C,aB⟩:=Ji K 11 R
 refine Tv<|Jb 1 R<|Ju<|Ja1<|Jw<|Jb2 (l:=[.tmp 6]) V189 (Jq2 R R) R ?_
 cases h
 exact⟨y,R,(g.stp<|T6 c a b d e C)⟩
theorem pe {aG aY}{p0:VP}{aH aZ}{p1:VV}{p2:Int}(ao:Rd Pair.rp J w 0 aG aY p0) (ap:Rd Rs J w 0 aH aZ p1){r:VP}(h:j5 p0 p1 p2=some r):Ret prog 98 [.slice aG p0.length aY,.slice aH p1.length aZ,vi p2] w (Pvs Pair.ep127 127 J w r):=by
 unfold j5 at h
 refine Jl3 J func98 R ntmps98 R λbE=>Jf3 R<|Je [1,2] R<|Jy3 J Pair.ep127 2 R Y69 cG R λbf be a0 X ad bu=>Tv<|Jb 1 R<|Jq<|Jf3 R<|Ob h λaW bP bH=>?_
 clear h
 refine Jx1 (λd a=>∃b,∃W:VP,∃P Q,d=[(7,.slice P W.length Q)]/\Stp [2,3,4,5,6] X a0 b a/\Oc Pair.ep127 127 b a 2 P Q W/\aW=Dv W) ?_ ?_
 refine Jv<|Jq3 [0,1,2] (λe j d a=>∃b q,∃E:VP,∃L N,d=(7,.slice L E.length N)::(8,vi q)::j/\Stp [2,3,4,5,6] X a0 b a/\Oc Pair.ep127 127 b a 2 L N E/\0<=q/\Dq ((p0.length:Int)-q)=e/\cntM (iO p0 p1 p2) e q E=some aW) ⟨_,_,⟨X,0,([]:VP),bf,be,R,Jk3,bu,(by decide),(by simp),bP⟩,(KM R)⟩ ?_
 rintro e _ cE ⟨aw,q,E,L,N,rfl,G,aI,aP,T,h⟩
 rcases e with _|e
 have U:=h;obtain⟨b1,h⟩:=exq U
 have aq:=dcf T
 refine Jq<|Jh3 [2,2,2,2] 2 R<|Jo3 R U69 R R<|Jb 1 R<|Jx2 R aq<|Jc1<|Jt<|Jt ?_
 cases h
 have h:=U
 refine Jb1 ?_
 cases h
 exact Jw1 _ ⟨aw,E,L,N,R,G.wk R,aI,R⟩<|KM R
 obtain⟨b1,h,U⟩:=BI h;unfold iO at h
 have aq:=dct T
 refine Jq<|Jh3 [2,2,2,2] 2 R<|Jo3 R U69 R R<|Jb 1 R<|Jw2 R aq<|Js<|Jp<|Jq<|Jv<|Je [2,1,1] R<|Jf R (Jj4 [.slice none 0 0,.slice none 0 0] R)<|Ju3 aw 3 R X127 R λS cH F H bp=>Tv<|Ji4 F 3 R Z127 R bp R λa1 I bq=>Tv<|Jd<|Jq<|Jf3 R<|Ob h λaX bO bF=>?_
 clear h
 refine Jp3 [0,1,2,7,8,9] (λj d a=>∃b,∃c:VI×VI,∃C x z A,d=j/\Stp [3,4,5] F a1 b a/\Oc E6 2 b a 4 C x c.1/\Oc E6 2 b a 5 z A c.2/\Bc b a 3 S 127 [.slice C c.1.length x,.slice z c.2.length A]/\aX=Dv c) ?_ ?_
 refine Jv<|Jq3 [0,1,2,7,8,9] (λe j d a=>∃b i,∃g:VI×VI,∃y B p o,d=(10,vi i)::j/\Stp [3,4,5] F a1 b a/\Oc E6 2 b a 4 y B g.1/\Oc E6 2 b a 5 p o g.2/\Bc b a 3 S 127 [.slice y g.1.length B,.slice p g.2.length o]/\0<=i/\Dq ((p1.length:Int)-i)=e/\cntM (iP p0 p1 p2 q) e i g=some aX) ⟨_,_,⟨F,0,(([]:VI),([]:VI)),none,0,none,0,R,Jk3,Ow.nil,Ow.nil,bq,(by decide),(by simp),bO⟩,(KM R)⟩ ?_
 rintro e _ cI ⟨Z,i,g,y,B,p,o,rfl,K,aj,ak,al,bJ,aO,h⟩
 rcases e with _|e
 have V:=h;obtain⟨b0,h⟩:=exq V
 have u:=dcf aO
 refine Jq<|Jh3 [2,2,2,2] 2 R<|Jo3 R U31 R R<|Jb 1 R<|Jx2 R u<|Jc1<|Jt<|Jt ?_
 cases h
 have h:=V
 refine Jb1 ?_
 cases h
 exact Jw1 _ ⟨Z,(g.1,g.2),y,B,p,o,R,K.wk R,aj,ak,al,R⟩<|KM R
 obtain⟨b0,h,V⟩:=BI h;unfold iP at h
 have u:=dct aO
 refine Jq<|Jh3 [2,2,2,2] 2 R<|Jo3 R U31 R R<|Jb 1 R<|Jw2 R u<|Js<|Jp<|Jq<|Jv<|Jq<|Jq<|Js1 (J:=Z) [0] none [(0,2),(1,2),(2,2),(3,2),(5,2),(6,2),(7,2),(9,2),(4,0),(8,0),(10,2),(11,0),(12,1)] [] (by kernel_rfl) (by kernel_rfl) λcJ k=>Jn 2 R<|Ob h λcR aQ h=>Jd3 R ao aQ U69 Z127<|Je3 R U127 R Z37<|Jn 2 R<|Ob h λcS aR h=>Jd3 R ap aR U31 Z37<|Jn 1 R ?_
 have am:=ao.stp (T6 ad G H I K k)
 obtain⟨ck,bQ,bM⟩:=(am).gSt aQ
 obtain⟨ce,cu,cf,cv,rfl,bC,cm⟩:=Pair.un bQ
 refine Jg R (Jd2 I37 R R<|hvC (λa ar=>bM a ar 0 _ R) R) ?_
 have an:=ap.stp (T6 ad G H I K k)
 obtain⟨ci,cy,aJ,bK⟩:=an.gSl aR
 refine Jg R (Jd2 I37 R R<|hvC bK R)<|Ob h λcT aS h=>Jd3 R aJ aS U37 Z2<|Jg R (Jd2 I2 R R<|hvC (aJ.gInt aS) R)<|Ob h λb4 bU h=>Js3 R call81 (i9 (J:=Mk Z) (Jj3 bC) bU) ?_
 rintro _ b2 ⟨cq,rfl,bh⟩
 obtain⟨aa,f,cs⟩:=Ji bh 6 R
 refine⟨(f.cl R),Jt1<|Jd<|Ob h λD h bG=>Jp3 [0,1,2,7,8,9,10] (λj d a=>∃b s t,d=j/\Stp [3,4] aa b2 b a/\Oc E6 2 b a 4 s t D/\Bc b a 3 S 127 [.slice s D.length t,.slice p g.2.length o]) ?_ ?_⟩
 revert h
 cases co:b4
 refine JF λh=>Jy R<|Js ?_
 cases h
 exact Jw1 _ ⟨aa,y,B,R,Jk3,(aj.stp<|k.tr f),(al.stp<|k.tr f)⟩<|KM R
 refine JT λh=>Jx R<|Ja [2,1,2,1,1,2,1] R<|Je3 R U127 R Z37 ?_
 have aL:=al.stp (k.tr f)
 refine Jc3 R I37 (aL.ld 0 R R)<|Jn 1 R<|Je4 aa 8 [i] R Y37 bS R λb8 b7 cL a8 ae bw=>Tv<|Ob h λa3 bW h=>Jz3 a8 E6 4 [] R Y37 bS R (aj.stp<|T3 k f ae) (Sl.srcP (cc _) bw.rdc) bV bW R λag ai cM ay aD bx=>Tv<|Je3 R U127 R Z37<|Jv3 ay 3 (off:=0) (vc:=[.slice ag a3.length ai]) (cs':=[.slice ag a3.length ai,.slice p g.2.length o]) R Z37 R (aL.stp<|ae.tr aD) R λcN aE bz=>Tv<|Jo ?_
 cases h
 exact Jw1 _ ⟨ay,ag,ai,R,(T3 ae aD aE).wk R,(bx.stp aE),bz⟩<|KM R
 rintro _ cK ⟨ax,s,t,rfl,v,bv,aK⟩
 have h:=bG
 refine Jp<|Jq<|Js1 (J:=ax) [0] none [(0,2),(1,2),(2,2),(3,2),(5,2),(6,2),(7,2),(9,2),(4,0),(8,0),(10,2),(11,0),(12,1)] [] (by kernel_rfl) (by kernel_rfl) λcO m=>Jn 2 R<|Ob h λcU aT h=>Jd3 R am aT U69 Z127<|Je3 R U127 R Z37<|Jn 2 R<|Ob h λcV aU h=>Jd3 R an aU U31 Z37<|Jn 1 R ?_
 obtain⟨cl,bR,bN⟩:=((am.stp (T3 f v m))).gSt aT
 obtain⟨cg,cw,ch,cx,rfl,cn,bD⟩:=Pair.un bR
 refine Jg R (Jd2 I37 R R<|hvC (λa ar=>bN a ar 1 _ R) R) ?_
 obtain⟨cj,cz,aM,bL⟩:=(an.stp (T3 f v m)).gSl aU
 refine Jg R (Jd2 I37 R R<|hvC bL R)<|Ob h λcW aV h=>Jd3 R aM aV U37 Z2<|Jg R (Jd2 I2 R R<|hvC (aM.gInt aV) R)<|Ob h λb5 bX h=>Js3 R call81 (i9 (J:=Mk ax) (Jj3 bD) bX) ?_
 rintro _ b3 ⟨cr,rfl,bi⟩
 obtain⟨ab,n,ct⟩:=Ji bi 8 R
 refine⟨(n.cl R),Jt1<|Jd<|Ob h λau h bI=>Jp3 [0,1,2,7,8,9,10] (λj d a=>∃b O M,d=j/\Stp [3,5] ab b3 b a/\Oc E6 2 b a 5 O M au/\Bc b a 3 S 127 [.slice s D.length t,.slice O au.length M]) ?_ ?_⟩
 revert h
 cases cp:b5
 refine JF λh=>Jy R<|Js ?_
 cases h
 exact Jw1 _ ⟨ab,p,o,R,Jk3,(ak.stp<|T5 k f v m n),(aK.stp<|m.tr n)⟩<|KM R
 refine JT λh=>Jx R<|Ja [2,1,2,1,1,2,1] R<|Je3 R U127 R Z37 ?_
 have aN:=aK.stp (m.tr n)
 refine Jc3 R I37 (aN.ld 1 R R)<|Jn 1 R<|Je4 ab 10 [i] R Y37 bS R λcb b9 cA a5 ac bj=>Tv<|Ob h λa4 bY h=>Jz3 a5 E6 5 [] R Y37 bS R (ak.stp<|T6 k f v m n ac) (Sl.srcP (cc _) bj.rdc) bV bY R λah af cB av az bk=>Tv<|Je3 R U127 R Z37<|Jv3 av 3 (off:=1) (vc:=[.slice ah a4.length af]) (cs':=[.slice s D.length t,.slice ah a4.length af]) R Z37 R (aN.stp<|ac.tr az) R λcC aA bm=>Tv<|Jo ?_
 cases h
 exact Jw1 _ ⟨av,ah,af,R,(T3 ac az aA).wk R,(bk.stp aA),bm⟩<|KM R
 rintro _ cQ ⟨ba,O,M,rfl,aF,bA,bB⟩
 have h:=bI
 refine Jz<|Jp<|Jg3 R ?_
 have bT:Dr .i64 (i+1)=i+1:=wr1 bJ (Jn2 u) ap.len_le
 rw[bT]
 have u:=Jn2 u
 cases h
 exact Ja2 ⟨ba,i+1,(D,au),s,t,O,M,R,(T7 K k f v m n aF).wk R,(bv.stp<|T3 m n aF),bA,bB,by omega,by omega,V⟩ R
 rintro _ a2 ⟨Y,c,C,x,z,A,rfl,aC,br,bs,bt,rfl⟩
 have h:=yI bF
 refine Jp<|Ji3 [2,1,1,1,2] 1 R<|Jc4 tv R (Jd4 (haE bt.cells) I127 Z127 R)<|Jx3 Y Pair.ep127 6 [4,5] (parts:=[(0,.tmp 64)]) (cells:=[.slice C c.1.length x,.slice z c.2.length A]) (xs:=([(⟨c.1,c.2⟩:Pair)]:VP)) R Y69 cG R (Jf4 ⟨[.slice C c.1.length x],[.slice z c.2.length A],Zl Y a2 [4],Zl Y a2 [5],R,Zl.sp (l1:=[4]) (l2:=[5]) R,Zl.sr (l1:=[4]) (l2:=[5]),⟨_,_,R,br⟩,⟨_,_,R,bs⟩⟩) λcd ca cD a6 aB bn=>Tv<|Ob h λb6 bZ h=>Jz3 a6 Pair.ep127 2 [6] R Y69 cG R (aI.stp<|T4 H I aC aB) bn.src (c9 R) bZ R λbd bg cF a7 bc bo=>Tv<|Jc 1 R<|Jz<|Jp<|Jg3 R<|wr2 aP T ao.len_le ▸ ?_
 cases h
 exact Ja2 ⟨a7,q+1,b6,bd,bg,R,(T6 G H I aC aB bc).wk R,bo,nxz aP,nxm T,U⟩ R
 rintro _ cP ⟨a9,W,P,Q,rfl,bb,bl,rfl⟩
 have h:=yI bH
 refine Jp<|Jf3 R<|Ju<|Jb2 (l:=[.tmp 6]) results98 (Jq2 R R) R ?_
 cases h
 exact⟨a9,P,Q,R,(bE.stp<|ad.tr bb),bl⟩
theorem wq {o q}{p0:VI}{p1:Int}(a:Rd Ri J w 0 o q p0){r:VI}(h:kC p0 p1=some r):Ret prog 96 [.slice o p0.length q,vi p1] w (λaj c=>∃(d:Col) (H:Option Addr) (I:Nat),aj= .slice H r.length I/\Ent J w d c/\Rd Ri d c 0 H I r):=by
 unfold kC at h
 refine Jl3 J func96 R ntmps96 R λy=>Jf3 R<|Jf3 R<|Jq<|Ob h λG ae ad=>?_
 clear h
 refine Jp3 [0,1] (λj k c=>∃d i,k=(5,vi i)::j/\Stp [] J w d c/\G=Dv i) ?_ ?_
 refine Jv<|Jq3 [0,1] (λg j k c=>∃d b,k=(5,vi b)::j/\Stp [] J w d c/\cd (ij p0 p1) g b=some G) ⟨_,_,⟨J,(0:Int),R,Jk3,ae⟩,(KM R)⟩ ?_
 rintro g _ am ⟨Q,b,rfl,n,h⟩
 rcases g with _|g
 cases h
 obtain⟨aB,h,z⟩:=BI h;unfold ij at h
 refine Jq<|Jh3 [2,2,2,2,2,2,2,2,1,2,2,2] 2 R<|Jo3 R U37 R R<|Jn 2 R<|Ob h λE h ab=>Jg4 [0,1,5] 18 E Q am [(5,2),(6,2),(7,2),(8,1),(9,2),(10,2),(11,2)] [] tv ?_ ?_
 revert h
 cases aw:decide (b<(p0.length:Int))
 refine JF λh=>Jn 3 R<|Ja4 R<|Jn 3 R ?_
 cases h
 exact Jh4 tv R
 refine JT λh=>Jn 2 R<|Ob h λaH A h=>Jd3 R a A U37 Z2<|Jc3 R I2 ((a.stp n).gInt A)<|Jn 3 R ?_
 cases h
 exact Jh4 tv R
 rintro _ aC _ ⟨rfl,s,u⟩
 have h:=ab
 refine Jd ?_
 revert h
 cases ax:E
 refine JF λh=>Jy R<|Jc1<|Jt<|Jt ?_
 cases h
 have h:=z
 refine Jb1 ?_
 cases h
 exact Jw1 _ ⟨s,b,R,(n.tr u).wk R,R⟩<|KM R
 refine JT λh=>Jx R<|Js<|Jp<|Jv<|Jg3 R<|Jz ?_
 cases h
 exact Ja2 ⟨s,((Dr .i64<|b+1):Int),R,(n.tr u).wk R,z⟩ R
 rintro _ ak ⟨N,i,rfl,e,rfl⟩
 have h:=yI ad
 refine Jp<|Jq<|Jh3 [2,2,2,2,2,2,2,2,1,2,2,2] 2 R<|Jo3 R U37 R R<|Jn 2 R<|Ob h λF h ac=>Jg4 [0,1,5] 32 F N ak [(5,2),(6,2),(7,2),(8,1),(9,2),(10,2),(11,2)] [] tv ?_ ?_
 revert h
 cases ay:decide (i<(p0.length:Int))
 refine JF λh=>Jn 3 R<|Ja4 R<|Jn 3 R ?_
 cases h
 exact Jh4 tv R
 refine JT λh=>Jn 2 R<|Ob h λaI B h=>Jd3 R a B U37 Z2<|Jc3 R I2 ((a.stp e).gInt B)<|Jn 3 R ?_
 cases h
 exact Jh4 tv R
 rintro _ aD _ ⟨rfl,t,f⟩
 have h:=ac
 refine Jd ?_
 revert h
 cases az:F
 refine JF λh=>Jy R<|Js<|Jp<|Jh3 [2,2,2,1,2,1,1,2] 2 R<|Ob h λaJ C h=>Jf R (ob (k1:= .i64) (k2:= .i64) U37 Z2 (.inl ⟨R,R⟩) (.inr ⟨_,R,R⟩) C a.1 R R R) ?_
 have p:=a.stp (e.tr f)
 refine Ob h λaK af h=>Js3 R call131 (om (J:=Mk t) (Jj3<|p.sub C) af) ?_
 rintro _ aE ⟨aA,ar,ao,rfl,W,X⟩
 obtain⟨K,v,ai⟩:=Ji W 2 R
 refine Tv<|Jn 1 R<|Je4 K 5 [p1] R Y37 bS R λap aq aF L m Y=>Tv<|Ob h λaL ag h=>Jz3 L E6 4 [] R Y37 bS R ((X.mx (bZ _) ai R (R:2+2=4)).stp m) (Sl.srcP (cc _) Y.rdc) bV ag R λau av aG M x Z=>Tv<|Jb 1 R<|Jh3 [2,2,2,2,1,2] 3 R<|Ob h λaM D h=>Jf R (ob (k1:= .i64) (k2:= .i64) U37 Z2 (.inr ⟨_,R,R⟩) (.inl ⟨R,R⟩) D p.1 R R R)<|Ob h λaN ah h=>Jz3 M E6 4 [] R Y37 bS R Z (Sl.srcP (cc _) ((p.stp<|T3 v m x).sub D)) bV ah R λU V al O S aa=>Tv<|Jb 1 R<|Ju ?_
 obtain⟨P,T,an⟩:=gD O al 4
 refine Jb2 (l:=[.tmp 4]) results96 (Jq2 R R) R ?_
 cases h
 exact⟨P,U,V,R,(y.stp<|T7 e f v m x S T),(Sl.st an aa.rdc)⟩
 refine JT λh=>Jx R<|Jf3 R<|Ju<|Jw<|Jb2 (l:=[.tmp 4]) results96 (Jq2 R R) R ?_
 cases h
 exact⟨t,o,q,R,(y.stp<|e.tr f),(a.stp<|e.tr f)⟩
theorem ot {p0:Sig}  {r:Int}(h:mb p0=some r):Ret prog 60 [.agg #[vi p0.In,vi p0.Out]] w (Pvi J w r):=by
 unfold mb at h
 refine Jl3 J func60 R ntmps60 R λg=>Je [1,2] R<|Jt3 J 2 R λj n a c f=>Tv<|Jb 1 R<|Je [2,1,1,2] R<|Je3 R U28 R Z2<|Jc3 R I2 (f.ld 0 R R)<|Ob h λp i h=>Js3 R call62 (d9 (J:=Mk a) i) ?_
 rintro _ o ⟨k,rfl,e⟩
 obtain⟨b,d,m⟩:=Ji e 3 R
 refine Tv<|Jb 1 R<|Ju<|Jb2 (l:=[.tmp 2]) results60 (Jq2 R R) R ?_
 cases h
 exact⟨b,R,(g.stp<|c.tr d)⟩
theorem qq {aQ aR aO aP}{p0:Machine}(a2:Rd Rs J w 0 aQ aR p0.Next) (a3:Rd Rs J w 0 aO aP p0.Out){r:VI}(h:iG p0=some r):Ret prog 84 [.agg #[.slice aQ p0.Next.length aR,.slice aO p0.Out.length aP]] w (Pvs E6 2 J w r):=by
 unfold iG at h
 refine Jl3 J func84 R ntmps84 R λb4=>Je [1,2] R<|Jt3 J 2 R λcZ de bG ay aE=>Tv<|Jb 1 R<|Je [2,1,2,1,2] R<|Je3 R U33 R Z31<|Jc3 R I31 (aE.ld 0 R R)<|Jo3 R U31 R R<|Ob h λn cD h=>Jl1 (J:=bG) (E:=E6) (z:=(0:Int)) 3 R R R R R R R Y37 bS R R R R R (λ_ _ _=>R) (Jv2 cD) λv s bz av L a0=>Tv<|Jb 1 R<|Jq<|Jh3 [2,2,2] 1 R<|Jo3 R U37 R R<|Jb 1 R<|Ob h λbu cs b5=>?_
 clear h
 refine Jp3 [1,3] (λd e b=>∃c,∃U:VI,e=d/\Stp [3] av bz c b/\Oc E6 2 c b 3 v s U/\n.length=U.length/\bu=Dv U) ?_ ?_
 refine Jv<|Jq3 [1,3,16] (λa d e b=>∃c j,∃A:VI,e=(17,vi j)::d/\Stp [3] av bz c b/\Oc E6 2 c b 3 v s A/\n.length=A.length/\0<=j/\Dq ((n.length:Int)-j)=a/\cntM (ec p0) a j A=some bu) ⟨_,_,⟨av,0,n,R,Jk3,a0,R,(by decide),(by simp),cs⟩,(KM R)⟩ ?_
 rintro a _ bx ⟨W,j,A,rfl,ab,aX,ba,a8,ak,h⟩
 rcases a with _|a
 have am:=h;obtain⟨cL,h⟩:=exq am
 have aI:=dcf ak
 refine Jf3 R<|Jq<|Jx2 R aI<|Jc1<|Jt<|Jt ?_
 cases h
 have h:=am
 refine Jb1 ?_
 cases h
 exact Jw1 _ ⟨W,A,R,ab.wk R,aX,ba,R⟩<|KM R
 obtain⟨cL,h,am⟩:=BI h;unfold ec at h
 have aI:=dct ak
 refine Jf3 R<|Jq<|Jw2 R aI<|Js<|Jp<|Jq<|Jv<|Jf3 R<|Jf3 R<|Ob h λ_ cx h=>?_
 have cc:=jG cx
 refine Ob h λbv ct b8=>?_
 clear h
 refine Jp3 [1,3,16,17] (λd e b=>∃c,∃V:VI,e=d/\Stp [3] W bx c b/\Oc E6 2 c b 3 v s V/\n.length=V.length/\bv=Dv V) ?_ ?_
 refine Jv<|Jq3 [1,3,4,16,17,21] (λa d e b=>∃c k,∃D:VI,e=(22,vi k)::d/\Stp [3] W bx c b/\Oc E6 2 c b 3 v s D/\n.length=D.length/\0<=k/\Dq ((Dr .i64<|j+1)-k)=a/\cntM (eW p0 j) a k D=some bv) ⟨_,_,⟨W,0,A,R,Jk3,aX,ba,(by decide),(by simp),ct⟩,(KM R)⟩ ?_
 rintro a _ dl ⟨au,k,D,rfl,I,ag,ao,cf,a4,h⟩
 rcases a with _|a
 have O:=h;obtain⟨cI,h⟩:=exq O
 have x:=dcf a4
 refine Jf3 R<|Jq<|Jx2 R x<|Jc1<|Jt<|Jt ?_
 cases h
 have h:=O
 refine Jb1 ?_
 cases h
 exact Jw1 _ ⟨au,D,R,I.wk R,ag,ao,R⟩<|KM R
 obtain⟨cI,h,O⟩:=BI h;unfold eW at h
 have x:=dct a4
 refine Jf3 R<|Jq<|Jw2 R x<|Js<|Jp<|Jq<|Jv<|Jf3 R<|Jq<|Js1 (J:=au) [0,2] none [(0,2),(2,2),(5,2),(7,2),(1,0),(3,2),(4,0),(6,0),(8,2),(9,0),(10,1)] [] (by kernel_rfl) (by kernel_rfl) λdm o=>Je3 R U33 R Z31<|Jn 1 R<|Je3 R U33 R Z31<|Jn 1 R ?_
 have aY:=aE.stp (T4 L ab I o)
 refine Jg R (Jd2 I31 R R<|hvC (aY.ld 1 R R) R)<|Ob h λdv bd h=>Jd3 R a3 bd U31 Z37 ?_
 have aF:=a3.stp (T5 ay L ab I o)
 obtain⟨cU,c9,bZ,ck⟩:=aF.gSl bd
 refine Jg R (Jd2 I37 R R<|hvC ck R)<|Jg R (Jd2 I31 R R<|hvC (aY.ld 1 R R) R)<|Ob h λdw be h=>Jd3 R aF be U31 Z37 ?_
 obtain⟨cV,da,b0,cl⟩:=aF.gSl be
 refine Jg R (Jd2 I37 R R<|hvC cl R)<|Ob h λcQ cE h=>Js3 R call160 (fF (J:=Mk au) (Jj3 bZ) (Jj3 b0) cE) ?_
 rintro _ dn ⟨c5,rfl,bU⟩
 obtain⟨aN,K,c7⟩:=Ji bU 4 R
 refine⟨(K.cl R),Jt1<|Jd ?_⟩
 revert h
 cases c3:cQ
 refine JF λh=>Jy R<|Js<|Jz<|Jp<|Jg3 R ?_
 have cz:Dr .i64 (k+1)=k+1:=wr1 cf (Jn2 x) cc
 rw[cz]
 have x:=Jn2 x
 cases h
 exact Ja2 ⟨aN,k+1,D,R,(T3 I o K).wk R,(ag.stp<|o.tr K),ao,by omega,by omega,O⟩ R
 refine JT λh=>Jx R<|Jh3 [2,2,2,2,1] 3 R<|Ob h λdx cF h=>Jf R (Jg2 ag.rdc cF U37 Z2 R R ao R)<|Ob h λbC bo h=>Jk1 (J:=aN) (E:=E6) 3 [] R R R R R R R R Z2 R R R R (ag.stp<|o.tr K) bo λdp bI bP b1=>Tv<|?_
 have cp:n.length=bC.length:=ao.trans (Ju2 bo).2.2.2.symm
 refine Jd<|Jc1<|Ja3 R<|Jt<|Jt ?_
 cases h
 have h:=O
 refine Jb1 ?_
 cases h
 exact Jw1 _ ⟨bI,bC,R,(T4 I o K bP).wk R,b1,cp,R⟩<|KM R
 rintro _ dk ⟨bH,V,rfl,bO,bY,co,rfl⟩
 have h:=yI b8
 refine Jz<|Jp<|Jg3 R<|wr2 a8 ak a0.len_le ▸ ?_
 cases h
 exact Ja2 ⟨bH,j+1,V,R,(ab.tr bO).wk R,bY,co,nxz a8,nxm ak,am⟩ R
 rintro _ cO ⟨aL,U,rfl,ax,bX,cn,rfl⟩
 have h:=yI b5
 refine Jp<|Ob h λcM cu b9=>?_
 clear h
 refine Jv<|Jq3 [1] (λa d e b=>∃c,∃i:VI,∃ad ae,e=(3,.slice ad i.length ae)::d/\Stp [4] aL cO c b/\Oc E6 2 c b 3 ad ae i/\cd (ed p0) a i=some cM) ⟨_,_,⟨aL,U,v,s,R,Jk3,bX,cu⟩,λbR ha=>(ha.moreE (ha.mm R) R<|congrArg (λaJ=>Value.slice v aJ s) cn)⟩ ?_
 rintro a _ dq ⟨bJ,i,ad,ae,rfl,ac,N,h⟩
 rcases a with _|a
 cases h
 obtain⟨c8,h,a9⟩:=BI h;unfold ed at h
 refine Jv<|Jh3 [2,2,1,2] 1 R<|Jo3 R U37 R R<|Ob h λF cG h=>Jl1 (J:=bJ) (E:=E6) (z:=(0:Int)) 4 R R R R R R R Y37 bS R R R R R (λ_ _ _=>R) (Jv2 cG) λt u bA aw p b2=>Tv<|Jb 1 R<|Jq<|Jh3 [2,2,2] 1 R<|Jo3 R U37 R R<|Jb 1 R<|Ob h λbr cv ca=>?_
 clear h
 refine Jp3 [1,3,6] (λd e b=>∃c,∃Q:VI,e=d/\Stp [4] aw bA c b/\Oc E6 2 c b 4 t u Q/\F.length=Q.length/\br=Dv Q) ?_ ?_
 refine Jv<|Jq3 [1,3,6,46] (λa d e b=>∃c f,∃B:VI,e=(47,vi f)::d/\Stp [4] aw bA c b/\Oc E6 2 c b 4 t u B/\F.length=B.length/\0<=f/\Dq ((i.length:Int)-f)=a/\cntM (ee p0 i) a f B=some br) ⟨_,_,⟨aw,0,F,R,Jk3,b2,R,(by decide),(by simp),cv⟩,(KM R)⟩ ?_
 rintro a _ bB ⟨X,f,B,rfl,M,a1,bc,a7,aj,h⟩
 rcases a with _|a
 have an:=h;obtain⟨cJ,h⟩:=exq an
 have aH:=dcf aj
 refine Jf3 R<|Jq<|Jx2 R aH<|Jc1<|Jt<|Jt ?_
 cases h
 have h:=an
 refine Jb1 ?_
 cases h
 exact Jw1 _ ⟨X,B,R,M.wk R,a1,bc,R⟩<|KM R
 obtain⟨cJ,h,an⟩:=BI h;unfold ee at h
 have aH:=dct aj
 refine Jf3 R<|Jq<|Jw2 R aH<|Js<|Jp<|Jq<|Jv<|Jf3 R<|Jf3 R<|Ob h λ_ cy h=>?_
 have ce:=jG cy
 refine Ob h λbs cw cb=>?_
 clear h
 refine Jp3 [1,3,6,46,47] (λd e b=>∃c,∃S:VI,e=d/\Stp [4] X bB c b/\Oc E6 2 c b 4 t u S/\F.length=S.length/\bs=Dv S) ?_ ?_
 refine Jv<|Jq3 [1,3,6,7,46,47,51] (λa d e b=>∃c g,∃C:VI,e=(52,vi g)::d/\Stp [4] X bB c b/\Oc E6 2 c b 4 t u C/\F.length=C.length/\0<=g/\Dq ((Dr .i64<|f+1)-g)=a/\cntM (eY p0 i f) a g C=some bs) ⟨_,_,⟨X,0,B,R,Jk3,a1,bc,(by decide),(by simp),cw⟩,(KM R)⟩ ?_
 rintro a _ dt ⟨G,g,C,rfl,q,ah,ap,cg,a5,h⟩
 rcases a with _|a
 have P:=h;obtain⟨cK,h⟩:=exq P
 have y:=dcf a5
 refine Jf3 R<|Jq<|Jx2 R y<|Jc1<|Jt<|Jt ?_
 cases h
 have h:=P
 refine Jb1 ?_
 cases h
 exact Jw1 _ ⟨G,C,R,q.wk R,ah,ap,R⟩<|KM R
 obtain⟨cK,h,P⟩:=BI h;unfold eY at h
 have y:=dct a5
 refine Jf3 R<|Jq<|Jw2 R y<|Js<|Jp<|Jq<|Jv<|Jf3 R<|Jq<|Js1 (J:=G) [0,3] none [(0,2),(1,2),(2,2),(4,2),(5,2),(6,2),(3,0),(7,0),(8,2),(9,2)] [] (by kernel_rfl) (by kernel_rfl) λbw m=>Jn 2 R<|Ob h λcR bf h=>Jd3 R N.rdc bf U37 Z2<|Jn 2 R<|Ob h λcS bg h=>Jd3 R N.rdc bg U37 Z2 ?_
 have af:=N.stp (T4 p M q m)
 refine Jg R (Jd2 I2 R R<|hvC (af.rdc.gInt bf) R)<|Jg R (Jd2 I2 R R<|hvC (af.rdc.gInt bg) R)<|Jn 2 R<|Jt1<|Jd<|Jq<|Je [2,1,2,2,1,2,2] R<|Je3 R U33 R Z31 ?_
 have aS:=aE.stp (T7 L ax ac p M q m)
 refine Jc3 R I31 (aS.ld 0 R R)<|Jn 1 R<|Ob h λcT bh h=>Jd3 R a2 bh U31 Z37 ?_
 have aB:=a2.stp (T8 ay L ax ac p M q m)
 obtain⟨cW,db,bV,ch⟩:=aB.gSl bh
 refine Jc3 R I37 ch<|Jo3 R U37 R R<|Jb 1 R<|Ob h λbt cr b6=>?_
 clear h
 refine Jp3 [1,3,6,7,8,46,47,51,52] (λd e b=>∃c,∃aq:Bool,e=(9,.bool aq)::d/\Stp [] G bw c b/\bt=Dv aq) ?_ ?_
 refine Jv<|Jq3 [1,3,6,7,8,46,47,51,52,69] (λa d e b=>∃c E,∃T:Bool,e=(9,.bool T)::(70,vi E)::d/\Stp [] G bw c b/\0<=E/\Dq ((cT.length:Int)-E)=a/\cntM (dN p0 i f g) a E T=some bt) ⟨_,_,⟨G,0,((cR==cS):Bool),R,Jk3,(by decide),(by simp),cr⟩,(KM R)⟩ ?_
 rintro a _ dg ⟨ar,E,T,rfl,H,a6,ai,h⟩
 rcases a with _|a
 have al:=h;obtain⟨cH,h⟩:=exq al
 have aG:=dcf ai
 refine Jf3 R<|Jq<|Jx2 R aG<|Jc1<|Jt<|Jt ?_
 cases h
 have h:=al
 refine Jb1 ?_
 cases h
 exact Jw1 _ ⟨ar,T,R,H.wk R,R⟩<|KM R
 obtain⟨cH,h,al⟩:=BI h;unfold dN at h
 have aG:=dct ai
 refine Jf3 R<|Jq<|Jw2 R aG<|Js<|Jp<|Jq<|Jv<|Jf3 R<|Js1 (J:=ar) [0,2,3] none [(0,2),(1,2),(2,2),(3,2),(5,2),(8,2),(13,2),(14,2),(16,2),(19,2),(4,0),(6,2),(7,0),(9,2),(10,0),(11,2),(12,0),(15,0),(17,2),(18,0),(20,2),(21,0),(22,2),(23,0),(24,2),(25,2),(26,2)] [] (by kernel_rfl) (by kernel_rfl) λcN Z=>Jn 2 R<|Ob h λbq h b7=>Jg4 [1,3,6,7,8,9,46,47,51,52,69,70] 98 bq ar cN [(2,2),(3,2),(5,2),(8,2),(13,2),(14,2),(16,2),(19,2),(4,0),(6,2),(7,0),(9,2),(10,0),(11,2),(12,0),(15,0),(17,2),(18,0),(20,2),(21,0),(22,2),(23,0),(24,2),(25,2)] [(26,2)] (Cl.refl _ _ _) ?_ ?_
 revert h
 cases c0:T
 refine JF λh=>Jn 8 R<|Jb4 R<|Jn 1 R<|Jb4 R<|Jn 1 R<|Jb4 R<|Jn 1 R<|Jb4 R<|Jb4 R<|Jn 1 R<|Jb4 R<|Jn 1 R<|Jb4 R<|Jn 1 R<|Jb4 R<|Jn 2 R ?_
 cases h
 exact Jv1 _ (Cl.refl _ _ _) ⟨R,_,Jk3⟩<|KM R
 refine JT λh=>Jn 1 R<|Je3 R U33 R Z31<|Jn 3 R<|Je3 R U33 R Z31<|Jn 2 R ?_
 have aT:=aS.stp (H.tr Z)
 refine Jg R (Jd2 I31 R R<|hvC (aT.ld 0 R R) R)<|Ob h λdy bi h=>Jd3 R aB bi U31 Z37 ?_
 have aC:=aB.stp (H.tr Z)
 obtain⟨cX,dc,aU,ci⟩:=aC.gSl bi
 refine Jg R (Jd2 I37 R R<|hvC ci R)<|Ob h λdz bj h=>Jd3 R aU bj U37 Z2<|Jg R (Jd2 I2 R R<|hvC (aU.gInt bj) R)<|Ob h λdA bk h=>Jd3 R af.rdc bk U37 Z2 ?_
 have aD:=af.stp (H.tr Z)
 refine Jg R (Jd2 I2 R R<|hvC (aD.rdc.gInt bk) R)<|Jg R (Jd2 I31 R R<|hvC (aT.ld 0 R R) R)<|Ob h λdB bl h=>Jd3 R aC bl U31 Z37 ?_
 obtain⟨cY,dd,aV,cj⟩:=aC.gSl bl
 refine Jg R (Jd2 I37 R R<|hvC cj R)<|Ob h λdC bm h=>Jd3 R aV bm U37 Z2<|Jg R (Jd2 I2 R R<|hvC (aV.gInt bm) R)<|Ob h λdD bn h=>Jd3 R aD.rdc bn U37 Z2<|Jg R (Jd2 I2 R R<|hvC (aD.rdc.gInt bn) R)<|Jn 2 R ?_
 cases h
 exact Jv1 _ (Cl.refl _ _ _) ⟨R,_,Jk3⟩<|KM R
 rintro _ dh _ ⟨rfl,bE,bM⟩
 have h:=b7
 refine Jn 1 R<|Jt1<|Jo<|Jz<|Jp<|Jg3 R<|wr2 a6 ai bV.len_le ▸ ?_
 cases h
 exact Ja2 ⟨bE,E+1,bq,R,(T3 H Z bM).wk R,nxz a6,nxm ai,al⟩ R
 rintro _ df ⟨aK,aq,rfl,Y,rfl⟩
 have h:=yI b6
 refine Jp<|Jf3 R ?_
 revert h
 cases c1:aq
 refine JF λh=>Jy R<|Js<|Jz<|Jp<|Jg3 R ?_
 have cA:Dr .i64 (g+1)=g+1:=wr1 cg (Jn2 y) ce
 rw[cA]
 have y:=Jn2 y
 cases h
 exact Ja2 ⟨aK,g+1,C,R,(T3 q m Y).wk R,(ah.stp<|m.tr Y),ap,by omega,by omega,P⟩ R
 refine JT λh=>Jx R<|Jh3 [2,2,2,2,1] 3 R<|Ob h λdu cB h=>Jf R (Jg2 ah.rdc cB U37 Z2 R R ap R)<|Ob h λbD bp h=>Jk1 (J:=aK) (E:=E6) 4 [] R R R R R R R R Z2 R R R R (ah.stp<|m.tr Y) bp λdi bF bN bW=>Tv<|?_
 have cm:F.length=bD.length:=ap.trans (Ju2 bp).2.2.2.symm
 refine Jd<|Jc1<|Ja3 R<|Jt<|Jt ?_
 cases h
 have h:=P
 refine Jb1 ?_
 cases h
 exact Jw1 _ ⟨bF,bD,R,(T4 q m Y bN).wk R,bW,cm,R⟩<|KM R
 rintro _ ds ⟨bL,S,rfl,bQ,b3,cq,rfl⟩
 have h:=yI cb
 refine Jz<|Jp<|Jg3 R<|wr2 a7 aj N.len_le ▸ ?_
 cases h
 exact Ja2 ⟨bL,f+1,S,R,(M.tr bQ).wk R,b3,cq,nxz a7,nxm aj,an⟩ R
 rintro _ dr ⟨bK,Q,rfl,az,aZ,bb,rfl⟩
 have h:=yI ca
 refine Jp<|Jq<|Jh3 [2,2,1] 2 R<|Ob h λcP cC h=>?_
 have aW:=N.stp (p.tr az)
 refine Js3 R call160 (Ret.cast (by simp only[bb,List.cons_append,List.nil_append])<|fF (J:=Mk bK) (Jj3 aZ.rdc) (Jj3 aW.rdc) cC) ?_
 rintro _ dj ⟨c4,rfl,bT⟩
 obtain⟨aM,aa,c6⟩:=Ji bT 5 R
 refine Tv<|Jd ?_
 revert h
 cases c2:cP
 refine JF λh=>Jy R<|Js<|Jp<|Jg3 R<|Jz ?_
 cases h
 exact Jz1 λbR ha=>⟨a,_,Jb3 _,⟨(λaA=>ren [(4,3)]<|aM aA),Q,t,u,R,(Jz2 ((T4 ac p az aa).wk R) [(4,3)] R),((aZ.stp aa).map (ren [(4,3)]) R R),a9⟩,(ha.moreE (ha.mm R) R<|congrArg (λaJ=>Value.slice t aJ u) bb)⟩
 refine JT λh=>Jx R<|Jf3 R<|Ju<|Jw<|Ja1<|Jw ?_
 cases h
 obtain rfl:=Ds a9
 have h:=yL b9
 refine Ja1<|Jb2 (l:=[.tmp 2]) results84 (Jq2 R R) R ?_
 cases h
 exact⟨(λaA=>ren [(3,2)]<|aM aA),ad,ae,R,((b4.stp<|T7 ay L ax ac p az aa).map (ren [(3,2)]) R R),((aW.stp aa).map (ren [(3,2)]) R R)⟩
theorem gC (n:Nat):∀{w:World}{J:Col}{p0:Int}{G Q}{p1:VV}{x y}{m:VI}{f j}{c0:VB}{H S}{l:VB}{g z A B}(L:Rd Rs J w 0 G Q p1) (aa:Oc E6 2 J w 2 x y m) (M:Oc Do 4 J w 3 f j c0) (N:Rd Rp.bool J w 0 H S l) (ab:Bc J w 4 g 37 [.slice x m.length y]) (D:Bc J w 0 z 178 [.slice f c0.length j]) (ac:Bc J w 0 A 178 [.slice H l.length S]) (ad:Bc J w 0 B 226 [.func (.func 218) #[] #[.pointer (some ⟨z,0,none⟩),.pointer (some ⟨A,0,none⟩),.pointer (some ⟨B,0,none⟩)]]){r:VI×VB}(h:cq n p0 p1 m c0 l=some r),Ret prog 218 [vi p0,.slice G p1.length Q,.func (.func 220) #[] #[.pointer (some ⟨g,0,none⟩)],.pointer (some ⟨z,0,none⟩),.pointer (some ⟨A,0,none⟩),.pointer (some ⟨B,0,none⟩)] w (λbg a=>∃(b:Col) (av:Option Addr) (aw:Nat),bg= .tuple #[]/\Ent J w b a/\Oc E6 2 b a 2 av aw r.1/\Oc Do 4 b a 3 f j r.2/\c0.length=r.2.length/\Bc b a 4 g 37 [.slice av r.1.length aw]):=by
 induction n with
 |zero=>
  intro w J p0 G Q p1 x y m f j c0 H S l g z A B L aa M N ab D ac ad r h
  cases h
 |succ n be=>
  intro w J p0 G Q p1 x y m f j c0 H S l g z A B L aa M N ab D ac ad r h
  have h:cJ (cq n) p0 p1 m c0 l=some r:=h
  unfold cJ at h
  refine Jl3 J func218 R ntmps218 R λa1=>Je [1,2,2,1] R<|Jc3 R I178 (D.ld 0 R R)<|Jn 1 R<|Ob h λbu bb h=>Jd3 R M.rdc bb U178 Z4<|Ob h λaB ar h=>Jk1 (J:=J) (E:=Do) 3 [] R R R R R R R R Z4 R R R R M ar λaz T e aS=>Tv<|?_
  have a8:c0.length=aB.length:=(Ju2 ar).2.2.2.symm
  refine Jd<|Jq<|Jh3 [2,2,2,1,2,2] 2 R<|Ob h λaA an h=>Jd3 R L an U31 Z37 ?_
  have al:=L.stp e
  obtain⟨bk,bp,Z,a5⟩:=al.gSl an
  refine Jc3 R I37 a5<|Jo3 R U37 R R<|Jb 1 R<|Ob h λay ba a2=>?_
  clear h
  refine Jp3 [0,2,3,4,5] (λo t a=>∃b,∃q:VI×VB,∃V W,t=o/\Stp [2,3,4,7,8,9] T az b a/\Oc E6 2 b a 2 V W q.1/\Oc Do 4 b a 3 f j q.2/\c0.length=q.2.length/\Bc b a 4 g 37 [.slice V q.1.length W]/\ay=Dv q) ?_ ?_
  refine Jv<|Jq3 [0,1,2,3,4,5,17,18] (λF o t a=>∃b s,∃i:VI×VB,∃v u,t=(19,vi s)::o/\Stp [2,3,4,7,8,9] T az b a/\Oc E6 2 b a 2 v u i.1/\Oc Do 4 b a 3 f j i.2/\c0.length=i.2.length/\Bc b a 4 g 37 [.slice v i.1.length u]/\0<=s/\Dq ((aA.length:Int)-s)=F/\cntM (cX (cq n) p1 l aA) F s i=some ay) ⟨_,_,⟨T,0,(m,aB),x,y,R,Jk3,(aa.stp e),aS,a8,(ab.stp e),(by decide),(by simp),ba⟩,(KM R)⟩ ?_
  rintro F _ bh ⟨ag,s,i,v,u,rfl,d,X,C,E,Y,am,O,h⟩
  rcases F with _|F
  have P:=h;obtain⟨bf,h⟩:=exq P
  have ae:=dcf O
  refine Jf3 R<|Jq<|Jx2 R ae<|Jc1<|Jt<|Jt ?_
  cases h
  have h:=P
  refine Jb1 ?_
  cases h
  exact Jw1 _ ⟨ag,(i.1,i.2),v,u,R,d.wk R,X,C,E,Y,R⟩<|KM R
  obtain⟨bf,h,P⟩:=BI h;unfold cX at h
  have ae:=dct O
  refine Jf3 R<|Jq<|Jw2 R ae<|Js<|Jp<|Jq<|Jv<|Je [2,1,2] R<|Ob h λbv ao h=>Jd3 R Z ao U37 Z2<|Jc3 R I2 ((Z.stp d).gInt ao)<|Jb 1 R<|Je [1,2,2,1,2,1,2,2,1,2,2] R ?_
  have ai:=ac.stp (e.tr d)
  refine Jc3 R I178 (ai.ld 0 R R)<|Jn 1 R<|Ob h λbj ap h=>Jd3 R N ap U178 Z4 ?_
  have aj:=N.stp (e.tr d)
  refine Jc3 R I4 (aj.gBool ap)<|Jn 1 R<|Ob h λax h a3=>Jg4 [0,1,2,3,4,5,10,17,18,19] 33 ax ag bh [(5,1),(6,2),(7,2),(8,1),(9,2),(10,2)] [] tv ?_ ?_
  revert h
  cases bl:bj
  refine JF λh=>Ja4 R<|Jn 2 R<|Ja4 R<|Jn 2 R ?_
  cases h
  exact Jh4 tv R
  refine JT λh=>Jc3 R I178 ((D.stp<|e.tr d).ld 0 R R)<|Jn 1 R<|Ob h λbw aq h=>Jf R (Jg2 C.rdc aq U178 Z4 R R E R)<|Jc3 R I4 (C.rdc.gBool aq)<|Jn 2 R ?_
  cases h
  exact Jh4 tv R
  rintro _ bi _ ⟨rfl,U,c⟩
  have h:=a3
  refine Jd<|Ob h λp h a4=>Jp3 [0,1,2,3,4,5,17,18,19] (λo t a=>∃b I K,t=o/\Stp [2,3,4,7,8,9] U bi b a/\Oc E6 2 b a 2 I K p.1/\Oc Do 4 b a 3 f j p.2/\c0.length=p.2.length/\Bc b a 4 g 37 [.slice I p.1.length K]) ?_ ?_
  revert h
  cases bm:ax
  refine JF λh=>Jy R<|Js ?_
  cases h
  exact Jw1 _ ⟨U,v,u,R,Jk3,(X.stp c),(C.stp c),E,(Y.stp c)⟩<|KM R
  refine JT λh=>Jx R<|Ja [1,2,2,2,1] R ?_
  have ak:=ad.stp (T3 e d c)
  refine Jc3 R isAgg226 (ak.ld 0 R R)<|Jn 3 R<|Ob h λbx bc h=>WO.callV R R R R R R R R call218 (be (J:=λk=>mp [(2,2),(3,3),(4,4)] 0<|U k) (Jm2 (al.stp<|d.tr c) (mp [(2,2),(3,3),(4,4)] 0) R R) ((X.stp c).map (mp [(2,2),(3,3),(4,4)] 0) R R) ((C.stp c).map (mp [(2,2),(3,3),(4,4)] 0) R R) (Jm2 (aj.stp c) (mp [(2,2),(3,3),(4,4)] 0) R R) ((Y.stp c).map (mp [(2,2),(3,3),(4,4)] 0) R R) (Bc.cast ((D.stp<|T3 e d c).map (mp [(2,2),(3,3),(4,4)] 0) R R) (by simp only[E])) ((ai.stp c).map (mp [(2,2),(3,3),(4,4)] 0) R R) (ak.map (mp [(2,2),(3,3),(4,4)] 0) R R) bc) ?_
  rintro _ bs ⟨bn,aM,aJ,rfl,aN,aW,aX,a9,aY⟩
  obtain⟨aE,aI,af⟩:=Ji aN 5 R
  refine Tv<|Jo ?_
  cases h
  exact Jw1 _ ⟨(λk=>ren [(7,2),(8,3),(9,4)]<|aE k),aM,aJ,R,(Jz2 (aI.wk R) [(7,2),(8,3),(9,4)] R),((aW.mx (bZ _) af R (R:5+2=7)).map (ren [(7,2),(8,3),(9,4)]) R R),((aX.mx dA af R (R:5+3=8)).map (ren [(7,2),(8,3),(9,4)]) R R),(E.trans a9),((aY.mx af R (R:5+4=9)).map (ren [(7,2),(8,3),(9,4)]) R R)⟩<|KM R
  rintro _ br ⟨aD,I,K,rfl,aH,aT,aU,a7,aV⟩
  have h:=a4
  refine Jz<|Jp<|Jg3 R<|wr2 am O Z.len_le ▸ ?_
  cases h
  exact Ja2 ⟨aD,s+1,(p.1,p.2),I,K,R,(T3 d c aH).wk R,aT,aU,a7,aV,nxz am,nxm O,P⟩ R
  rintro _ bq ⟨aC,q,V,W,rfl,aG,aP,aQ,a6,aR,rfl⟩
  have h:=yI a2
  refine Jp<|Ji3 [2,2,1] 2 R<|Ob h λbz bd h=>WO.callV R R R R R R R R call220 (rW (J:=λk=>mp [(2,2),(4,3)] 0<|aC k) (aP.map (mp [(2,2),(4,3)] 0) R R) (aR.map (mp [(2,2),(4,3)] 0) R R) bd) ?_
  rintro _ bt ⟨bo,aL,aK,rfl,aO,aZ,a0⟩
  obtain⟨aF,ah,au⟩:=Ji aO 5 R
  refine Tv<|Jo<|DN.end0 results218 ?_
  cases h
  exact⟨(λk=>ren [(7,2),(8,4)]<|aF k),aL,aK,R,((a1.stp<|T3 e aG ah).map (ren [(7,2),(8,4)]) R R),((aZ.mx (bZ _) au R (R:5+2=7)).map (ren [(7,2),(8,4)]) R R),((aQ.stp ah).map (ren [(7,2),(8,4)]) R R),a6,((a0.mx au R (R:5+3=8)).map (ren [(7,2),(8,4)]) R R)⟩
end
end Go.Proofs.YtleekpaohfpooaaGreat
