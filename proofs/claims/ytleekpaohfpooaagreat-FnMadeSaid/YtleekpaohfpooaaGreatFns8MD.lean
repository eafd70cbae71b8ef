/- The walks, part 8. By program. -/
import Derived.Test.YtleekpaohfpooaaGreatFns5MD
import Derived.Test.YtleekpaohfpooaaGreatFns6MD
import Derived.Test.YtleekpaohfpooaaGreatFns7MD
set_option linter.unusedVariables false
set_option linter.unusedSimpArgs false
open Go.Wk.Ep renaming bool → Do
open Int renaming toNat → Dq
open Option.some renaming inj → Ds
open Sum renaming inr → Dv
namespace Go.Proofs.YtleekpaohfpooaaGreat
open Tryz
open Go Go.Wk Go.Proofs
set_option maxRecDepth 100000
set_option maxHeartbeats 1000000
section
variable {w:World}{J:Col}
theorem dU {q z}{p0:VC}{c1_0:Sig}{s}(i:Rd Clause.rp J w 0 q z p0) (F:Bc J w 0 s 28 [vi c1_0.In,vi c1_0.Out]){r:Int}(h:cn p0 c1_0=some r):Ret prog 194 [.slice q p0.length z,.func (.func 127) #[] #[.pointer (some ⟨s,0,none⟩)]] w (Pvi J w r):=by
 unfold cn at h
 refine Jl3 J func194 R ntmps194 R λt=>Jf3 R<|Jq<|Jh3 [2,2,2] 1 R<|Jo3 R U29 R R<|Jb 1 R<|Ob h λy H u=>?_
 clear h
 refine Jp3 [1] (λf g k=>∃m,g=f/\Stp [] J w m k/\y=Dv ()) ?_ ?_
 refine Jv<|Jq3 [0,1,7] (λd f g k=>∃m a,g=(8,vi a)::f/\Stp [] J w m k/\0<=a/\Dq ((p0.length:Int)-a)=d/\cntM (cm p0 c1_0) d a ()=some y) ⟨_,_,⟨J,0,R,Jk3,(by decide),(by simp),H⟩,(KM R)⟩ ?_
 rintro d _ Z ⟨o,a,rfl,b,v,e,h⟩
 rcases d with _|d
 have c:=h;obtain⟨L,h⟩:=exq c
 have j:=dcf e
 refine Jf3 R<|Jq<|Jx2 R j<|Jc1<|Jt<|Jt ?_
 cases h
 have h:=c
 refine Jb1 ?_
 cases h
 exact Jw1 _ ⟨o,R,b.wk R,R⟩<|KM R
 obtain⟨L,h,c⟩:=BI h;unfold cm at h
 have j:=dct e
 refine Jf3 R<|Jq<|Jw2 R j<|Js<|Jp<|Jq<|Jv<|Jf3 R<|Jh3 [2,2,2,2,1,1] 3 R<|Ob h λM x h=>Jd3 R i x U29 Z67 ?_
 obtain⟨Q,I,G⟩:=((i.stp b)).gSt x
 obtain⟨O,V,P,W,rfl,D,E⟩:=Clause.un I
 refine Jc4 tv R (Jd4 (haE G) I67 Z67 R)<|Ob h λN K h=>WO.callV R R R R R R R R call127 (pQ (J:=Mk o) (p0:=M) (c0:=c1_0) (Jj3 D) (Jj3 E) ((F.stp b).map (mp [] 0) R R) K) ?_
 rintro _ X ⟨T,rfl,C⟩
 obtain⟨n,p,U⟩:=Ji C 2 R
 refine Tv<|Jd ?_
 revert h
 cases S:N
 refine JF λh=>Jy R<|Js<|Jz<|Jp<|Jg3 R<|wr2 v e i.len_le ▸ ?_
 cases h
 exact Ja2 ⟨n,a+1,R,(b.tr p).wk R,nxz v,nxm e,c⟩ R
 refine JT λh=>Jx R<|Jf3 R<|Ju<|Ja1<|Jw<|Jw ?_
 cases h
 obtain rfl:=Ds c
 have h:=yL u
 refine Ja1<|Jr2<|Jw<|Jb2 (l:=[.tmp 4]) results194 (Jq2 R R) R ?_
 cases h
 exact⟨n,R,(t.stp<|b.tr p)⟩
 rintro _ Y ⟨A,rfl,B,rfl⟩
 have h:=yI u
 refine Jp<|Jf3 R<|Ju<|Jb2 (l:=[.tmp 4]) results194 (Jq2 R R) R ?_
 cases h
 exact⟨A,R,(t.stp B)⟩
theorem qW {c d}{p0:Place}{b g}{c0:VP}{e}(s:Rd Ri J w 0 c d p0.Record) (t:Rd Pair.rp J w 0 b g c0) (u:Bc J w 0 e 69 [.slice b c0.length g]){r:VI}(h:jx p0 c0=some r):Ret prog 110 [.agg #[vi p0.At,.slice c p0.Record.length d],.pointer (some ⟨e,0,none⟩)] w (Pvs E6 2 J w r):=by
 unfold jx at h
 refine Jl3 J func110 R ntmps110 R λv=>Je [1,2] R<|Jt3 J 2 R λz B j a f=>Tv<|Jb 1 R<|Je [1,2,1,2,1,1,2] R<|Jc3 R I69 ((u.stp a).ld 0 R R)<|Je3 R U88 R Z37<|Jc3 R I37 (f.ld 1 R R)<|Je3 R U88 R Z2<|Jc3 R I2 (f.ld 0 R R)<|Ob h λD x h=>Js3 R call111 (qU (J:=Mk j) (Jj3<|t.stp a) (Jj3<|s.stp a) x) ?_
 rintro _ C ⟨A,n,m,rfl,p,q⟩
 obtain⟨i,k,y⟩:=Ji p 3 R
 refine Tv<|Jb 1 R<|Ju<|Jb2 (l:=[.tmp 3]) results110 (Jq2 R R) R ?_
 cases h
 exact⟨(λo=>ren [(5,2)]<|i o),n,m,R,((v.stp<|a.tr k).map (ren [(5,2)]) R R),((q.mx (bZ _) y R (R:3+2=5)).map (ren [(5,2)]) R R)⟩
theorem uo {c e}{p0:VL}{p1:Int}{d f}{p2:VI}(p:Rd Place.rp J w 0 c e p0) (q:Rd Ri J w 0 d f p2){r:Int}(h:mO p0 p1 p2=some r):Ret prog 174 [.slice c p0.length e,vi p1,.slice d p2.length f] w (Pvi J w r):=by
 unfold mO at h
 refine Jl3 J func174 R ntmps174 R λs=>Je [1,1,2] R<|Jt3 J 2 R λu z i b n=>Tv<|Jt3 i 3 R λv B j a o=>Tv<|Jb 1 R<|Jh3 [2,2,1,2] 1 R<|Jf R (eH (first:=[]) (captured:=[.tmp 4,.tmp 5]) R R R ⟨_,R⟩)<|Ob h λC t h=>Js3 R call241 (eB (J:=Mk j) (Jj3<|p.stp<|b.tr a) (Jj3<|q.stp<|b.tr a) ((n.stp a).map (mp [] 0) R R) (o.map (mp [] 0) R R) t) ?_
 rintro _ A ⟨x,rfl,m⟩
 obtain⟨g,k,y⟩:=Ji m 4 R
 refine Tv<|Jb 1 R<|Ju<|Jb2 (l:=[.tmp 6]) results174 (Jq2 R R) R ?_
 cases h
 exact⟨g,R,(s.stp<|T3 b a k)⟩
theorem qX {c d}{p0:Place}{b g}{c0:VP}{e}(n:Rd Ri J w 0 c d p0.Record) (o:Rd Pair.rp J w 0 b g c0) (p:Bc J w 0 e 69 [.slice b c0.length g]){r:Int}(h:jy p0 c0=some r):Ret prog 112 [.agg #[vi p0.At,.slice c p0.Record.length d],.pointer (some ⟨e,0,none⟩)] w (Pvi J w r):=by
 unfold jy at h
 refine Jl3 J func112 R ntmps112 R λq=>Je [1,2] R<|Jt3 J 2 R λt x j a f=>Tv<|Jb 1 R<|Je [1,2,1,2,1,1,2] R<|Jc3 R I69 ((p.stp a).ld 0 R R)<|Je3 R U88 R Z37<|Jc3 R I37 (f.ld 1 R R)<|Je3 R U88 R Z2<|Jc3 R I2 (f.ld 0 R R)<|Ob h λz s h=>Js3 R call113 (qV (J:=Mk j) (Jj3<|o.stp a) (Jj3<|n.stp a) s) ?_
 rintro _ y ⟨u,rfl,m⟩
 obtain⟨i,k,v⟩:=Ji m 3 R
 refine Tv<|Jb 1 R<|Ju<|Jb2 (l:=[.tmp 3]) results112 (Jq2 R R) R ?_
 cases h
 exact⟨i,R,(q.stp<|a.tr k)⟩
theorem rY {v u t p q s}{p0:Parity}{K V}{p1:VI}(aP:Rd Ri J w 0 v u p0.Arena.Owner) (aQ:Rd Rs J w 0 t p p0.Arena.Next) (aR:Rd Ri J w 0 q s p0.Prio) (aS:Rd Ri J w 0 K V p1){r:VI×VI}(h:oH p0 p1=some r):Ret prog 114 [.agg #[.slice v p0.Arena.Owner.length u,.slice t p0.Arena.Next.length p,.slice q p0.Prio.length s],.slice K p1.length V] w (λba z=>∃(B:Col) (Q:Option Addr) (T:Nat) (S:Option Addr) (U:Nat),ba= .tuple #[.slice Q r.1.length T,.slice S r.2.length U]/\Ent J w B z/\Oc E6 2 B z 2 Q T r.1/\Oc E6 2 B z 3 S U r.2):=by
 unfold oH at h
 refine Jl3 J func114 R ntmps114 R λP=>Je [1,2,2] R<|Jt3 J 2 R λbp bC C e aK=>Tv<|Jb 2 R<|Jq<|Js1 (J:=C) [2] none [(1,2),(0,0),(2,0),(3,1),(4,2),(5,1),(6,2)] [] (by kernel_rfl) (by kernel_rfl) λbI d=>Je3 R U79 R Z75 ?_
 have y:=aK.stp d
 refine Jg R (Jd4 (haC y.cells R) I79 Z79 R)<|Jg R (Jd4 (haC (y.lds 0 2 R) R) I75 Z75 R)<|Ob h λW aT h=>?_
 have N:=aP.stp (e.tr d)
 have O:=aQ.stp (e.tr d)
 refine Js3 R call176 (uq (J:=Mk C) (p0:=p0.Arena) (Jj3 N) (Jj3 O) aT) ?_
 rintro _ bD ⟨bs,am,ar,rfl,ay,aH⟩
 obtain⟨aa,a,a5⟩:=Ji ay 3 R
 refine⟨(a.cl R),Jf R (Jj4 [.slice v p0.Arena.Owner.length u,.slice t p0.Arena.Next.length p,.slice q p0.Prio.length s,.slice am W.length ar] R)<|Jt3 aa 6 R λbo bG ab b aI=>⟨((a.tr b).cl R),Jn 1 R<|Jt1<|Jd<|Je [2,1,2,1,2] R<|Je3 R U79 R Z75<|Jc4 tv R (Jd4 (haE ((y.stp<|a.tr b).lds 0 2 R)) I75 Z75 R)<|Jn 1 R<|Ob h λbN aU h=>?_⟩⟩
 have L:=N.stp (a.tr b)
 have M:=O.stp (a.tr b)
 refine Js3 R call177 (vF (J:=Mk ab) (p0:=p0.Arena) (Jj3 L) (Jj3 M) (Jj3<|aS.stp<|T4 e d a b) aU) ?_
 rintro _ A ⟨bu,bh,bk,rfl,az,aJ⟩
 obtain⟨ac,f,a6⟩:=Ji az 7 R
 refine Tv<|Jb 1 R<|Jh3 [2,2,1,2,2,2,2,2] 2 R ?_
 obtain⟨ad,g,bc⟩:=gD ac A 5
 obtain⟨ae,i,bd⟩:=gD ad A 9
 obtain⟨af,c,be⟩:=gD ae A 6
 refine Ob h λbb aV h=>?_
 have x:=(Sl.st bd ((aJ.mx dA a6 R (R:7+2=9)).stp g).rdc).stp c
 have n:=(T3 f g i)
 refine Js3 R call178 (qY _ (J:=λj=>mp [] 1<|af j) (p0:=(⟨p0,W⟩:solver)) (Jm2 (L.stp<|n.tr c) (mp [] 1) R R) (Jm2 (M.stp<|n.tr c) (mp [] 1) R R) (Jm2 (aR.stp<|T8 e d a b f g i c) (mp [] 1) R R) (Jm2 ((Sl.st bc ((aH.mx (cQ (bZ _) _) a5 R (R:3+2=5)).stp (b.tr f)).rdc).stp (i.tr c)) (mp [] 1) R R) (Jm2 x (mp [] 1) R R) ((Bc.fzz be<|aI.stp n).map (mp [] 1) R R) aV) ?_
 rintro _ bH ⟨bv,bi,bg,rfl,aA,aL⟩
 obtain⟨D,k,bB,bf⟩:=Jj aA 10 R
 refine Tv<|?_
 have m:=aL.mx bf
 refine Jb 5 R<|Jq<|Jf3 R ?_
 revert h
 cases bq:(bb.2==0)
 refine JF λh=>Jy R<|Js<|Jp<|Jh3 [2,2,1,1,2,1,2,2] 2 R<|Ob h λbR aZ h=>Js3 R call180 (jB (J:=Mk D) (Jj3<|x.stp k) (Jj3 m) aZ) ?_
 rintro _ bM ⟨bA,bn,bl,rfl,av,aE⟩
 obtain⟨X,E,a2⟩:=Ji av 13 R
 refine Tv<|Ob h λbS a0 h=>Js3 R call179 (ji (J:=Mk X) (Jj3 (aE.mx dA a2 R (R:13+2=15)).rdc) a0) ?_
 rintro _ bE ⟨br,au,aj,rfl,aw,aF⟩
 obtain⟨Y,F,a3⟩:=Ji aw 16 R
 refine Tv<|Jn 1 R<|Ob h λbT a1 h=>Js3 R call179 (ji (J:=Mk Y) (Jj3<|m.stp<|E.tr F) a1) ?_
 rintro _ bF ⟨bt,aq,an,rfl,ax,aG⟩
 obtain⟨Z,G,a4⟩:=Ji ax 19 R
 refine Tv<|Jb 2 R<|Ju<|Jb2 (l:=[.tmp 4,.tmp 5]) results114 (Jq2 R<|Jq2 R R) R ?_
 cases h
 exact⟨(λj=>ren [(18,2),(21,3)]<|Z j),au,aj,aq,an,R,((P.stp<|T12 e d a b f g i c k E F G).map (ren [(18,2),(21,3)]) R R),(((aF.mx (bZ _) a3 R (R:16+2=18)).stp G).map (ren [(18,2),(21,3)]) R R),((aG.mx (bZ _) a4 R (R:19+2=21)).map (ren [(18,2),(21,3)]) R R)⟩
 refine JT λh=>Jx R<|Jh3 [2,1,2,2,1,1,2,2] 1 R<|Ob h λbO aW h=>Js3 R call179 (ji (J:=Mk D) (Jj3 m) aW) ?_
 rintro _ bJ ⟨bw,ak,ap,rfl,aB,aM⟩
 obtain⟨ag,o,a7⟩:=Ji aB 13 R
 refine Tv<|Jn 2 R<|Ob h λbP aX h=>Js3 R call180 (jB (J:=Mk ag) (Jj3<|x.stp<|k.tr o) (Jj3<|m.stp o) aX) ?_
 rintro _ bK ⟨bx,bj,bm,rfl,aC,aN⟩
 obtain⟨ah,H,a8⟩:=Ji aC 16 R
 refine Tv<|Ob h λbQ aY h=>Js3 R call179 (ji (J:=Mk ah) (Jj3 (aN.mx dA a8 R (R:16+2=18)).rdc) aY) ?_
 rintro _ bL ⟨bz,al,ao,rfl,aD,aO⟩
 obtain⟨ai,I,a9⟩:=Ji aD 19 R
 refine Tv<|Jb 2 R<|Ju<|Jw<|Jb2 (l:=[.tmp 4,.tmp 5]) results114 (Jq2 R<|Jq2 R R) R ?_
 cases h
 exact⟨(λj=>ren [(15,2),(21,3)]<|ai j),ak,ap,al,ao,R,((P.stp<|T12 e d a b f g i c k o H I).map (ren [(15,2),(21,3)]) R R),(((aM.mx (bZ _) a7 R (R:13+2=15)).stp (H.tr I)).map (ren [(15,2),(21,3)]) R R),((aO.mx (bZ _) a9 R (R:19+2=21)).map (ren [(15,2),(21,3)]) R R)⟩
theorem vI {S ar Q N O P}{p0:Parity}{M aj}{p1:VI}(V:Rd Ri J w 0 S ar p0.Arena.Owner) (W:Rd Rs J w 0 Q N p0.Arena.Next) (X:Rd Ri J w 0 O P p0.Prio) (Y:Rd Ri J w 0 M aj p1){r:Parity}(h:n7 p0 p1=some r):Ret prog 184 [.agg #[.slice S p0.Arena.Owner.length ar,.slice Q p0.Arena.Next.length N,.slice O p0.Prio.length P],.slice M p1.length aj] w (λaR b=>∃(c:Col) (ad:Option Addr) (ag:Nat) (ae:Option Addr) (ah:Nat) (af:Option Addr) (ai:Nat),aR= .agg #[.slice ad r.Arena.Owner.length ag,.slice ae r.Arena.Next.length ah,.slice af r.Prio.length ai]/\Ent J w c b/\Oc E6 2 c b 2 ad ag r.Arena.Owner/\Oc (Ep.own E6 2) 37 c b 3 ae ah r.Arena.Next/\Oc E6 2 c b 4 af ai r.Prio):=by
 unfold n7 at h
 refine Jl3 J func184 R ntmps184 R λaP=>Je [1,1] R<|Jt3 J 2 R λaT aW am n aH=>Tv<|Ju3 am 3 R X79 R λax aS z k U=>Tv<|Jd<|Jq<|Ob h λf aa h=>Ob h λG Z h=>Jp3 [4] (λak au b=>∃c A C F B E D,au=ak/\Stp [3,4,6,7,8] z aS c b/\Oc E6 2 c b 4 A C f.Owner/\Oc (Ep.own E6 2) 37 c b 5 F B f.Next/\Oc E6 2 c b 6 E D G/\Bc c b 3 ax 79 [.slice A f.Owner.length C,.slice F f.Next.length B,.slice E G.length D]) ?_ ?_
 refine WC.rxt (J:=z) [2] none (by kernel_rfl) λaX d=>Jq1 (fuel:=5) [(0,2),(2,2),(5,2),(1,0),(6,0)] (by kernel_rfl) (by kernel_rfl) R<|Je3 R U79 R Z75<|Jn 1 R<|Je3 R U79 R Z37 ?_
 have T:=aH.stp (k.tr d)
 refine Jg R (Jd4 (haC (T.lds 0 2 R) R) I75 Z75 R)<|Jg R (Jd2 I37 R R<|hvC (T.ld 2 R R) R)<|Jp1<|WA.fork2 (fuel:=4) 3 4 (by kernel_rfl) R ?_ ?_
 have H:=(T3 n k d)
 refine Js3 R call246 (pS (J:=Mk z) (p0:=p0.Arena) (Jj3<|V.stp H) (Jj3<|W.stp H) (Jj3<|Y.stp H) aa) ?_
 rintro _ aY ⟨aU,v,t,q,u,rfl,ay,aE,aF⟩
 obtain⟨an,g,ab⟩:=Ji ay 4 R
 exact⟨(g.cl R),Jp1<|Jq1 (fuel:=0) [(4,1),(7,1),(8,2),(9,1)] (by kernel_rfl) (by kernel_rfl) R<|Jy3 an E6 8 R Y37 bS R λaw aQ aZ ao e aG=>⟨((g.tr e).cl R),Jz3 ao E6 8 [] R Y37 bS R aG (Sl.srcP (cc _)<|X.stp<|T5 n k d g e) bV Z R λs x a0 K j aI=>⟨((T3 g e j).cl R),Jf R (Jj4 [.slice v f.Owner.length t,.slice q f.Next.length u,.slice s G.length x] R)<|Ji4 K 3 R Z79 R (U.stp<|T4 d g e j) R λa1 o aJ=>⟨((T4 g e j o).cl R),Jp1<|Jr1 [] (by kernel_rfl) (by kernel_rfl) R<|Jo<|Jw1 _ ⟨(λy=>ren [(6,4),(7,5),(8,6)]<|K y),v,t,q,u,s,x,R,(Jz2 ((T5 d g e j o).wk R) [(6,4),(7,5),(8,6)] R),(((aE.mx (bZ _) ab R (R:4+2=6)).stp (T3 e j o)).map (ren [(6,4),(7,5),(8,6)]) R R),(((aF.mx (cQ (bZ _) _) ab R (R:4+3=7)).stp (T3 e j o)).map (ren [(6,4),(7,5),(8,6)]) R R),((aI.stp o).map (ren [(6,4),(7,5),(8,6)]) R R),(aJ.map (ren [(6,4),(7,5),(8,6)]) R R)⟩<|KM R⟩⟩⟩⟩
 have I:=(T3 n k d)
 refine Jy3 z E6 4 R Y37 bS R λaw aQ a2 ap a aK=>⟨(a.cl R),Jp1<|Jq1 (fuel:=0) [(3,1),(7,1),(8,2),(9,1)] (by kernel_rfl) (by kernel_rfl) R<|Js3 R call246 (pS (J:=Mk ap) (p0:=p0.Arena) (Jj3<|V.stp<|I.tr a) (Jj3<|W.stp<|I.tr a) (Jj3<|Y.stp<|I.tr a) aa) ?_⟩
 rintro _ a3 ⟨aV,v,t,q,u,rfl,az,aL,aM⟩
 obtain⟨aq,i,ac⟩:=Ji az 5 R
 exact⟨((a.tr i).cl R),Jz3 aq E6 4 [] R Y37 bS R (aK.stp i) (Sl.srcP (cc _)<|X.stp<|T5 n k d a i) bV Z R λs x a4 L m aN=>⟨((T3 a i m).cl R),Jf R (Jj4 [.slice v f.Owner.length t,.slice q f.Next.length u,.slice s G.length x] R)<|Ji4 L 3 R Z79 R (U.stp<|T4 d a i m) R λa5 p aO=>⟨((T4 a i m p).cl R),Jp1<|Jr1 [] (by kernel_rfl) (by kernel_rfl) R<|Jo<|Jw1 _ ⟨(λy=>ren [(7,4),(8,5),(4,6)]<|L y),v,t,q,u,s,x,R,(Jz2 ((T5 d a i m p).wk R) [(7,4),(8,5),(4,6)] R),(((aL.mx (bZ _) ac R (R:5+2=7)).stp (m.tr p)).map (ren [(7,4),(8,5),(4,6)]) R R),(((aM.mx (cQ (bZ _) _) ac R (R:5+3=8)).stp (m.tr p)).map (ren [(7,4),(8,5),(4,6)]) R R),((aN.stp p).map (ren [(7,4),(8,5),(4,6)]) R R),(aO.map (ren [(7,4),(8,5),(4,6)]) R R)⟩<|KM R⟩⟩⟩
 rintro _ a6 ⟨al,A,C,F,B,E,D,rfl,av,aA,aB,aC,aD⟩
 refine Jp<|Ju<|Jb2 (l:=[.cell 4 79]) results184 (cg R aD I79 Z79 R R) R ?_
 cases h
 exact⟨(λy=>ren [(4,2),(5,3),(6,4)]<|al y),A,C,F,B,E,D,R,((aP.stp<|T3 n k av).map (ren [(4,2),(5,3),(6,4)]) R R),(aA.map (ren [(4,2),(5,3),(6,4)]) R R),(aB.map (ren [(4,2),(5,3),(6,4)]) R R),(aC.map (ren [(4,2),(5,3),(6,4)]) R R)⟩
theorem kO {b c}{p0:VI}{p1:Int}(j:Rd Ri J w 0 b c p0){r:Bool}(h:fN p0 p1=some r):Ret prog 159 [.slice b p0.length c,vi p1] w (Pvb J w r):=by
 unfold fN at h
 refine Jl3 J func159 R ntmps159 R λk=>Je [1,2] R<|Jt3 J 2 R λn q d a i=>Tv<|Jb 1 R<|Jh3 [2,2,1,2,2] 1 R<|Jf R (eH (first:=[]) (captured:=[.tmp 3]) R R R ⟨_,R⟩)<|Ob h λt m h=>Js3 R call216 (eR (J:=Mk d) (Jj3<|j.stp a) (i.map (mp [] 0) R R) m) ?_
 rintro _ s ⟨o,rfl,g⟩
 obtain⟨e,f,p⟩:=Ji g 3 R
 refine Tv<|Jb 2 R<|Ju<|Jb2 (l:=[.tmp 4]) results159 (Jq2 R R) R ?_
 cases h
 exact⟨e,R,(k.stp<|a.tr f)⟩
theorem pc {p0:Sig}{p q s t}{p1:Clause}(U:Rd Ri J w 0 p q p1.A) (V:Rd Ri J w 0 s t p1.B){r:Bool}(h:jX p0 p1=some r):Ret prog 150 [.agg #[vi p0.In,vi p0.Out],.agg #[vi p1.Kind,.slice p p1.A.length q,.slice s p1.B.length t]] w (Pvb J w r):=by
 unfold jX at h
 refine Jl3 J func150 R ntmps150 R λy=>Je [1,1,2] R<|Jt3 J 2 R λaw aP B d T=>Tv<|Jt3 B 3 R λax aT D c v=>Tv<|Jb 1 R<|Jq<|Je [1,1,2,2,2,1,1,2,2] R ?_
 have x:=T.stp c
 refine Jc4 tv R (Jd4 (haE x.cells) I28 Z28 R)<|Ob h λap af h=>Js3 R call58 (jY (J:=Mk D) (p0:=p0) af) ?_
 rintro _ aj ⟨aD,rfl,M⟩
 obtain⟨i,a,aJ⟩:=Ji M 4 R
 refine Tv<|Jn 2 R<|Ob h λz h W=>Jg4 [2,3] 14 z i aj [(4,2),(5,1),(6,1),(7,2),(8,2)] [] tv ?_ ?_
 revert h
 cases ay:(!ap)
 refine JF λh=>Je3 R U67 R Z2<|Jc3 R I2 ((v.stp a).ld 0 R R)<|Ob h λaX aa h=>Js3 R C59 (dD (J:=Mk i) aa) ?_
 rintro _ aQ ⟨aE,rfl,N⟩
 obtain⟨ar,H,aK⟩:=Ji N 6 R
 refine Tv<|Jn 2 R ?_
 cases h
 exact Jv1 _ tv ⟨R,_,H.wk R⟩<|KM R
 refine JT λh=>Jn 1 R<|Ja4 R<|Ja4 R<|Jn 2 R ?_
 cases h
 exact Jh4 tv R
 rintro _ aR _ ⟨rfl,j,b⟩
 have h:=W
 refine Jd ?_
 revert h
 cases az:z
 refine JF λh=>Jy R<|Js<|Jp<|Je [1,1,2] R<|Jc4 tv R (Jd4 (haE (x.stp<|a.tr b).cells) I28 Z28 R)<|Ob h λaY ab h=>Js3 R call120 (g7 (J:=Mk j) (p0:=p0) ab) ?_
 rintro _ aS ⟨aF,rfl,O⟩
 obtain⟨C,e,aL⟩:=Ji O 6 R
 refine Tv<|Jb 1 R<|Je [2,1,2,1,2,2,1,2,1,2,2,2,1,1,2,2,1,2,2,2,2,2] R<|Je3 R U67 R Z37 ?_
 have g:=v.stp (T3 a b e)
 refine Jc3 R I37 (g.ld 1 R R)<|Jn 1 R<|Ob h λan ac h=>Js3 R call158 (ny (J:=Mk C) (Jj3<|U.stp<|T5 d c a b e) ac) ?_
 rintro _ ak ⟨aG,rfl,P⟩
 obtain⟨k,f,aM⟩:=Ji P 8 R
 refine Tv<|Jn 1 R<|Ob h λA h X=>Jg4 [3] 26 A k ak [(5,2),(6,1),(7,2),(8,1),(9,2)] [(10,2),(11,2),(12,1),(13,1),(14,2),(15,2),(16,1),(17,2),(18,2),(19,2),(20,2),(21,2)] tv ?_ ?_
 revert h
 cases aA:an
 refine JF λh=>Jn 1 R<|Ja4 R<|Jn 1 R<|Ja4 R<|Jn 1 R ?_
 cases h
 exact Jh4 tv R
 refine JT λh=>Je3 R U67 R Z37<|Jc3 R I37 ((g.stp f).ld 2 R R)<|Jn 1 R<|Ob h λaZ ad h=>Js3 R call158 (ny (J:=Mk k) (Jj3<|V.stp<|T6 d c a b e f) ad) ?_
 rintro _ aU ⟨aH,rfl,Q⟩
 obtain⟨au,I,aN⟩:=Ji Q 10 R
 refine Tv<|Jn 1 R ?_
 cases h
 exact Jv1 _ tv ⟨R,_,I.wk R⟩<|KM R
 rintro _ al _ ⟨rfl,m,n⟩
 have h:=X
 refine Jn 1 R<|Ob h λah h Y=>Ju1 [(11,2),(12,1),(13,1),(14,2),(15,2),(16,1),(17,2),(18,2),(19,2),(20,2)] [(21,2)] (λG ai=>G=[(37,.bool ah)]/\∃aq,Stp [] m al aq ai) tv ?_ ?_
 revert h
 cases aB:A
 refine JF λh=>Jn 1 R<|Ja4 R<|Ja4 R<|Jn 2 R<|Ja4 R<|Jn 4 R ?_
 cases h
 exact Jh4 tv R
 refine JT λh=>Je3 R U67 R Z2 ?_
 have u:=g.stp (f.tr n)
 refine Jc3 R I2 (u.ld 0 R R)<|Ob h λao ae h=>Js3 R call211 (uV (J:=Mk m) ae) ?_
 rintro _ am ⟨aI,rfl,S⟩
 obtain⟨E,o,aO⟩:=Ji S 10 R
 refine Tv<|Jn 1 R<|Ob h λag h Z=>Jg4 [27] 36 ag E am [(15,2),(16,1),(17,2),(18,2),(19,2)] [(20,2)] tv ?_ ?_
 revert h
 cases aC:ao
 refine JF λh=>Je3 R U67 R Z37<|Jc3 R I37 ((u.stp o).ld 2 R R)<|Jo3 R U37 R R<|Jn 2 R ?_
 cases h
 exact Jh4 tv R
 refine JT λh=>Jn 1 R<|Ja4 R<|Jn 3 R ?_
 cases h
 exact Jh4 tv R
 rintro _ aV _ ⟨rfl,av,K⟩
 have h:=Z
 refine Jn 1 R ?_
 cases h
 exact Jv1 _ tv ⟨R,_,(o.tr K).wk R⟩<|KM R
 rintro _ aW _ ⟨rfl,F,L⟩
 have h:=Y
 refine Jb 1 R<|Ju<|Jb2 (l:=[.tmp 4]) results150 (Jq2 R R) R ?_
 cases h
 exact⟨F,R,(y.stp<|T8 d c a b e f n L)⟩
 refine JT λh=>Jx R<|Jf3 R<|Ju<|Jw<|Jb2 (l:=[.tmp 4]) results150 (Jq2 R R) R ?_
 cases h
 exact⟨j,R,(y.stp<|T4 d c a b)⟩
theorem px {c d}{p0:VI}{p1:Int}(k:Rd Ri J w 0 c d p0){r:Bool}(h:kV p0 p1=some r):Ret prog 80 [.slice c p0.length d,vi p1] w (Pvb J w r):=by
 unfold kV at h
 refine Jl3 J func80 R ntmps80 R λm=>Jf3 R<|Jh3 [2,1,2,2,2,1,2,2] 1 R<|Ob h λt p h=>Js3 R C59 (dD (J:=Mk J) p) ?_
 rintro _ s ⟨y,rfl,j⟩
 obtain⟨a,b,A⟩:=Ji j 2 R
 refine Tv<|Jn 1 R<|Ob h λq h n=>Jg4 [4] 11 q a s [(3,2),(4,2),(5,1),(6,2)] [(7,2)] tv ?_ ?_
 revert h
 cases v:t
 refine JF λh=>Jn 2 R<|Ja4 R<|Jn 1 R ?_
 cases h
 exact Jh4 tv R
 refine JT λh=>Jn 2 R<|Ob h λD o h=>Js3 R call158 (ny (J:=Mk a) (Jj3<|k.stp b) o) ?_
 rintro _ B ⟨x,rfl,i⟩
 obtain⟨u,f,z⟩:=Ji i 4 R
 refine Tv<|Jn 1 R ?_
 cases h
 exact Jv1 _ tv ⟨R,_,f.wk R⟩<|KM R
 rintro _ C _ ⟨rfl,e,g⟩
 have h:=n
 refine Jb 1 R<|Ju<|Jb2 (l:=[.tmp 4]) results80 (Jq2 R R) R ?_
 cases h
 exact⟨e,R,(m.stp<|b.tr g)⟩
theorem tu {p0:Sig}{E D C B}{p1:Det}{p2:Int}{x:Int}(I:Rd Rs J w 0 E D p1.Next) (aE:Rd Pair.rp J w 0 C B p1.Pairs){r:VI}(h:ma p0 p1 p2 x=some r):Ret prog 130 [.agg #[vi p0.In,vi p0.Out],.agg #[.slice E p1.Next.length D,.slice C p1.Pairs.length B],vi p2,vi x] w (λaw b=>∃(c:Col) (O:Option Addr) (P:Nat),aw= .slice O r.length P/\Ent J w c b/\Rd Ri c b 0 O P r):=by
 unfold ma at h
 refine Jl3 J func130 R ntmps130 R λan=>Je [1,1,2] R<|Jt3 J 2 R λaC aO T z ak=>Tv<|Jt3 T 3 R λaD aU Y v am=>Tv<|Jb 1 R<|Je [1,2] R<|Jy3 Y E6 4 R Y37 bS R λad ac y S g ai=>Tv<|Jb 1 R<|Jq<|Jf3 R<|Ob h λN aq ao=>?_
 clear h
 obtain⟨s,i,az⟩:=gD S y 4
 refine Jx1 (λu b=>∃c,∃q:VI×Int,∃n o,u=[(9,.slice n q.1.length o)]/\Stp [] s y c b/\Rd Ri c b 0 n o q.1/\N=Dv q) ?_ ?_
 refine Jv<|Jq3 [2,3,4,5] (λp Q u b=>∃c,∃a:VI×Int,∃m k,u=(9,.slice m a.1.length k)::(10,vi a.2)::Q/\Stp [] s y c b/\Rd Ri c b 0 m k a.1/\cd (iT p0 p1 p2 x) p a=some N) ⟨_,_,⟨s,(([]:VI),(0:Int)),ad,ac,R,Jk3,(Sl.st az ai.rdc),aq⟩,(KM R)⟩ ?_
 rintro p _ aQ ⟨V,a,m,k,rfl,e,F,h⟩
 rcases p with _|p
 cases h
 obtain⟨aM,h,K⟩:=BI h;unfold iT at h
 refine Jq<|Jh3 [2,2,1,1,2] 1 R<|Je3 R U28 R Z2 ?_
 have G:=ak.stp (T4 v g i e)
 refine Jc3 R I2 (G.ld 1 R R)<|Ob h λax ar h=>Js3 R call62 (d9 (J:=Mk V) ar) ?_
 rintro _ aR ⟨aG,rfl,af⟩
 obtain⟨t,d,aJ⟩:=Ji af 5 R
 refine Tv<|Jb 1 R ?_
 revert h
 cases aF:decide (a.2<ax)
 refine JF λh=>Jy R<|Jc1<|Jt<|Jt ?_
 cases h
 have h:=K
 refine Jb1 ?_
 cases h
 exact Jw1 _ ⟨t,(a.1,a.2),m,k,R,(e.tr d).wk R,(F.stp d),R⟩<|KM R
 refine JT λh=>Jx R<|Js<|Jp<|Jq<|Jv<|Js1 (J:=t) [0,2,3] none [(0,2),(1,2),(3,2),(7,2),(8,2),(2,0),(4,2),(5,0),(6,0),(9,1),(10,2),(11,0),(12,1),(13,2)] [] (by kernel_rfl) (by kernel_rfl) λaS f=>Jn 1 R<|Je3 R U71 R Z31<|Jn 3 R<|Jg R (Jd2 I31 R R<|hvC ((am.stp<|T5 g i e d f).ld 0 R R) R)<|Ob h λaW L h=>Jd3 R I L U31 Z37 ?_
 obtain⟨aB,aN,H,ap⟩:=(I.stp (T7 z v g i e d f)).gSl L
 refine Jg R (Jd2 I37 R R<|hvC ap R)<|Jg R (Jd4 (haC (G.stp<|d.tr f).cells R) I28 Z28 R)<|Ob h λaX au h=>Js3 R call94 (tn (J:=Mk t) (p0:=p0) au) ?_
 rintro _ aT ⟨aH,rfl,ag⟩
 obtain⟨W,j,aK⟩:=Ji ag 7 R
 refine⟨(j.cl R),Ob h λaY M h=>Jd3 R H M U37 Z2<|Jg R (Jd2 I2 R R<|hvC (H.gInt M) R)<|Ob h λay av h=>Js3 R call96 (wq (J:=λae=>mp [] 1<|W ae) (Jm2 (F.stp<|T3 d f j) (mp [] 1) R R) av) ?_⟩
 rintro _ aV ⟨aI,aa,ab,rfl,ah,al⟩
 obtain⟨X,A,aL,aA⟩:=Jj ah 9 R
 refine⟨((j.tr A).cl R),Jn 1 R<|Jt1<|Jo<|Jz<|Jp<|Jg3 R ?_⟩
 cases h
 exact Ja2 ⟨X,(ay,((IntKind.wrap .i64<|a.2+1):Int)),aa,ab,R,(T5 e d f j A).wk R,(al.mx aA),K⟩ R
 rintro _ aP ⟨U,q,n,o,rfl,Z,aj,rfl⟩
 have h:=yI ao
 refine Jp<|Jf3 R<|Ju<|Jb2 (l:=[.tmp 8]) results130 (Jq2 R R) R ?_
 cases h
 exact⟨U,n,o,R,(an.stp<|T5 z v g i Z),aj⟩
theorem qd {F D E G}{p0:Arena}(t:Rd Ri J w 0 F D p0.Owner) (g:Rd Rs J w 0 E G p0.Next){r:Bool}(h:lg p0=some r):Ret prog 132 [.agg #[.slice F p0.Owner.length D,.slice E p0.Next.length G]] w (Pvb J w r):=by
 unfold lg at h
 refine Jl3 J func132 R ntmps132 R λu=>Je [1,2] R<|Jt3 J 2 R λaG aY X e p=>Tv<|Jb 1 R<|Je [2,1,2,2] R<|Je3 R U75 R Z37<|Jc3 R I37 (p.ld 0 R R)<|Jo3 R U37 R R<|Jb 1 R<|Jq<|Jh3 [2,1,2,2,2,1,2,2,1,2,2,2] 1 R<|Ob h λaB au h=>Js3 R C59 (dD (J:=Mk X) au) ?_
 rintro _ ay ⟨aQ,rfl,ag⟩
 obtain⟨ab,a,aS⟩:=Ji ag 3 R
 refine Tv<|Jn 2 R<|Ob h λP h ai=>Jg4 [1,3] 19 P ab ay [(4,2),(5,1),(6,2),(7,2),(8,1),(9,2),(10,2),(11,2)] [] tv ?_ ?_
 revert h
 cases aJ:(!aB)
 refine JF λh=>Je3 R U75 R Z31 ?_
 have H:=p.stp a
 refine Jc3 R I31 (H.ld 1 R R)<|Jo3 R U31 R R<|Je3 R U75 R Z37<|Jc3 R I37 (H.ld 0 R R)<|Jo3 R U37 R R<|Jn 2 R ?_
 cases h
 exact Jh4 tv R
 refine JT λh=>Jn 1 R<|Ja4 R<|Jn 2 R<|Ja4 R<|Jn 3 R ?_
 cases h
 exact Jh4 tv R
 rintro _ V _ ⟨rfl,n,b⟩
 have h:=ai
 refine Jd ?_
 revert h
 cases aK:P
 refine JF λh=>Jy R<|Js<|Jp<|Jq<|Jf3 R<|Ob h λU ap I=>?_
 clear h
 refine Jx1 (λs x=>∃y,s=[]/\Stp [] n V y x/\U=Dv ()) ?_ ?_
 refine Jv<|Jq3 [1,3] (λm W s x=>∃y i,s=(4,vi i)::W/\Stp [] n V y x/\0<=i/\Dq ((p0.Owner.length:Int)-i)=m/\cntM (jH p0) m i ()=some U) ⟨_,_,⟨n,0,R,Jk3,(by decide),(by simp),ap⟩,(KM R)⟩ ?_
 rintro m _ a0 ⟨z,i,rfl,c,K,q,h⟩
 rcases m with _|m
 have k:=h;obtain⟨av,h⟩:=exq k
 have v:=dcf q
 refine Jq<|Jh3 [2,2,1,2,2] 1 R<|Je3 R U75 R Z37<|Jc3 R I37 ((p.stp<|T3 a b c).ld 0 R R)<|Jo3 R U37 R R<|Jb 1 R<|Jx2 R v<|Jc1<|Jt<|Jt ?_
 cases h
 have h:=k
 refine Jb1 ?_
 cases h
 exact Jw1 _ ⟨z,R,c.wk R,R⟩ KN
 obtain⟨av,h,k⟩:=BI h;unfold jH at h
 have v:=dct q
 refine Jq<|Jh3 [2,2,1,2,2] 1 R<|Je3 R U75 R Z37 ?_
 have j:=p.stp (T3 a b c)
 refine Jc3 R I37 (j.ld 0 R R)<|Jo3 R U37 R R<|Jb 1 R<|Jw2 R v<|Js<|Jp<|Jq<|Jv<|Je [2,1,2,2,1,1,2,2,2,1,2,2,1,2,2,2,2,2,1,2,2,1,2,2,2,2,2,1,2,2,1,2,1,2,2] R<|Je3 R U75 R Z37<|Jc3 R I37 (j.ld 0 R R)<|Jn 1 R<|Ob h λa3 L h=>Jd3 R t L U37 Z2<|Jc3 R I2 ((t.stp<|T4 e a b c).gInt L)<|Ob h λaA aq h=>Js3 R C59 (dD (J:=Mk z) aq) ?_
 rintro _ aw ⟨aP,rfl,ae⟩
 obtain⟨Z,d,aT⟩:=Ji ae 5 R
 refine Tv<|Jn 2 R<|Ob h λQ h aj=>Jg4 [1,3,4] 42 Q Z aw [(8,2),(9,1),(10,2),(11,2),(12,1),(13,2),(14,2),(15,2)] [(16,2),(17,2),(18,1),(19,2),(20,2),(21,1),(22,2),(23,2),(24,2),(25,2),(26,2),(27,1),(28,2),(29,2),(30,1),(31,2),(32,1),(33,2),(34,2)] tv ?_ ?_
 revert h
 cases aL:(!aA)
 refine JF λh=>Je3 R U75 R Z31<|Jc3 R I31 ((j.stp d).ld 1 R R)<|Jn 1 R<|Ob h λa4 M h=>Jd3 R g M U31 Z37 ?_
 obtain⟨aD,aV,aH,am⟩:=(g.stp (T5 e a b c d)).gSl M
 refine Jc3 R I37 am<|Jo3 R U37 R R<|Jn 2 R ?_
 cases h
 exact Jh4 tv R
 refine JT λh=>Jn 1 R<|Ja4 R<|Jn 2 R<|Ja4 R<|Jn 3 R ?_
 cases h
 exact Jh4 tv R
 rintro _ ax _ ⟨rfl,aa,f⟩
 have h:=aj
 refine Jn 1 R<|Ob h λS h ak=>Jg4 [1,3,4] 51 S aa ax [(17,2),(18,1),(19,2),(20,2),(21,1),(22,2),(23,2),(24,2)] [(25,2),(26,2),(27,1),(28,2),(29,2),(30,1),(31,2),(32,1),(33,2),(34,2)] tv ?_ ?_
 revert h
 cases aM:Q
 refine JF λh=>Je3 R U75 R Z31<|Jc3 R I31 ((j.stp<|d.tr f).ld 1 R R)<|Jn 1 R<|Ob h λa5 N h=>Jd3 R g N U31 Z37 ?_
 obtain⟨aE,aW,aI,an⟩:=(g.stp (T6 e a b c d f)).gSl N
 refine Jc3 R I37 an<|Jo3 R U37 R R<|Jn 2 R ?_
 cases h
 exact Jh4 tv R
 refine JT λh=>Jn 1 R<|Ja4 R<|Jn 2 R<|Ja4 R<|Jn 3 R ?_
 cases h
 exact Jh4 tv R
 rintro _ az _ ⟨rfl,A,o⟩
 have h:=ak
 refine Jn 1 R<|Ob h λT h al=>Jg4 [1,3,4] 61 T A az [(26,2),(27,1),(28,2),(29,2),(30,1),(31,2),(32,1),(33,2),(34,2)] [] tv ?_ ?_
 revert h
 cases aN:S
 refine JF λh=>Je3 R U75 R Z31<|Jc3 R I31 ((j.stp<|T3 d f o).ld 1 R R)<|Jn 1 R<|Ob h λa6 O h=>Jd3 R g O U31 Z37 ?_
 obtain⟨aF,aX,ah,ao⟩:=(g.stp (T7 e a b c d f o)).gSl O
 refine Jc3 R I37 ao<|Jn 1 R<|Ob h λa7 ar h=>Js3 R call158 (ny (J:=Mk A) (Jj3 ah) ar) ?_
 rintro _ a1 ⟨aR,rfl,af⟩
 obtain⟨aC,ad,aU⟩:=Ji af 7 R
 refine Tv<|Jn 2 R ?_
 cases h
 exact Jv1 _ tv ⟨R,_,ad.wk R⟩<|KM R
 refine JT λh=>Jn 1 R<|Ja4 R<|Jn 2 R<|Ja4 R<|Jn 1 R<|Ja4 R<|Jn 2 R ?_
 cases h
 exact Jh4 tv R
 rintro _ a2 _ ⟨rfl,B,C⟩
 have h:=al
 refine Jd ?_
 revert h
 cases aO:T
 refine JF λh=>Jy R<|Js<|Jz<|Jp<|Jg3 R<|wr2 K q t.len_le ▸ ?_
 cases h
 exact Ja2 ⟨B,i+1,R,(T5 c d f o C).wk R,nxz K,nxm q,k⟩ R
 refine JT λh=>Jx R<|Jf3 R<|Ju<|Ja1<|Jw<|Jw ?_
 cases h
 obtain rfl:=Ds k
 have h:=yL I
 refine Ja1<|Jr2<|Jw<|Jb2 (l:=[.tmp 2]) results132 (Jq2 R R) R ?_
 cases h
 exact⟨B,R,(u.stp<|T8 e a b c d f o C)⟩
 rintro _ aZ ⟨Y,rfl,ac,rfl⟩
 have h:=yI I
 refine Jp<|Jf3 R<|Ju<|Jb2 (l:=[.tmp 2]) results132 (Jq2 R R) R ?_
 cases h
 exact⟨Y,R,(u.stp<|T4 e a b ac)⟩
 refine JT λh=>Jx R<|Jf3 R<|Ju<|Jw<|Jb2 (l:=[.tmp 2]) results132 (Jq2 R R) R ?_
 cases h
 exact⟨n,R,(u.stp<|T3 e a b)⟩
theorem xy (n:Nat):∀{w:World}{J:Col}{ah ab Z aa ae ad af Y ac ag}{p0:l7Game}{X av}{p1:VB}(aM:Rd Ri J w 0 ah ab p0.owner) (aN:Rd Ri J w 0 Z aa p0.prio) (aO:Rd Rs J w 0 ae ad p0.next) (aP:Rd Rs J w 0 af Y p0.prev) (aQ:Rd Ri J w 0 ac ag p0.pick) (aR:Rd Rp.bool J w 0 X av p1){r:VB}(h:kX n p0 p1=some r),Ret prog 250 [.agg #[.slice ah p0.owner.length ab,.slice Z p0.prio.length aa,.slice ae p0.next.length ad,.slice af p0.prev.length Y,.slice ac p0.pick.length ag],.slice X p1.length av] w (Pvs Do 4 J w r):=by
 induction n with
 |zero=>
  intro w J ah ab Z aa ae ad af Y ac ag p0 X av p1 aM aN aO aP aQ aR r h
  cases h
 |succ n bY=>
  intro w J ah ab Z aa ae ad af Y ac ag p0 X av p1 aM aN aO aP aQ aR r h
  have h:ka (kX n) p0 p1=some r:=h
  unfold ka at h
  refine Jl3 J func250 R ntmps250 R λaS=>Je [1,2] R<|Jt3 J 2 R λeh ey cl s aK=>Tv<|Jb 1 R<|Je [1,2,1,2] R<|Jc4 tv R (Jd4 (haE aK.cells) I210 Z210 R)<|Jn 1 R<|Ob h λQ ds h=>?_
  have bo:=aM.stp s
  have ai:=aN.stp s
  have bw:=aO.stp s
  have bx:=aP.stp s
  have bF:=aQ.stp s
  have M:=aR.stp s
  refine Js3 R call270 (xx (J:=Mk cl) (p0:=p0) (Jj3 bo) (Jj3 ai) (Jj3 bw) (Jj3 bx) (Jj3 bF) (Jj3 M) ds) ?_
  rintro _ ez ⟨eq,rfl,cC⟩
  obtain⟨ch,k,ex⟩:=Ji cC 3 R
  refine Tv<|Jb 1 R<|Jh3 [2,2,1,2] 1 R<|Jo3 R U178 R R<|Ob h λv dt h=>Jl1 (J:=ch) (E:=Do) (z:=(false:Bool)) 5 R R R R R R R Y178 da R R R R R (λ_ _ _=>R) (Jv2 dt) λy x eG a3 m aH=>Tv<|Jb 1 R<|Jq<|Jf3 R ?_
  revert h
  cases em:decide (Q<0)
  refine JF λh=>Jy R<|Js<|Jp<|Jh3 [2,2,2] 1 R<|Jf R (xo R R R (by decide))<|Jb 1 R<|Jh3 [2,2,1,2] 1 R<|Jo3 R U178 R R<|Ob h λaw du h=>Jl1 (J:=a3) (E:=Do) (z:=(false:Bool)) 6 R R R R R R R Y178 da R R R R R (λ_ _ _=>R) (Jv2 du) λbe bd b7 aA g cS=>Tv<|Jb 1 R<|Jq<|Jf3 R<|Ob h λb1 dk c6=>?_
  clear h
  refine Jp3 [1,2,6,7,8] (λd e b=>∃c,∃ar:VB,e=d/\Stp [6] aA b7 c b/\Oc Do 4 c b 6 be bd ar/\aw.length=ar.length/\b1=Dv ar) ?_ ?_
  refine Jv<|Jq3 [1,2,5,6,7,8] (λa d e b=>∃c H,∃N:VB,e=(9,vi H)::d/\Stp [6] aA b7 c b/\Oc Do 4 c b 6 be bd N/\aw.length=N.length/\0<=H/\Dq ((p1.length:Int)-H)=a/\cntM (me p0 p1 Q) a H N=some b1) ⟨_,_,⟨aA,0,aw,R,Jk3,cS,R,(by decide),(by simp),dk⟩,(KM R)⟩ ?_
  rintro a _ dU ⟨a4,H,N,rfl,W,aJ,aZ,bK,al,h⟩
  rcases a with _|a
  have ap:=h;obtain⟨dL,h⟩:=exq ap
  have aV:=dcf al
  refine Jq<|Jh3 [2,2,2,2] 2 R<|Jo3 R U178 R R<|Jb 1 R<|Jx2 R aV<|Jc1<|Jt<|Jt ?_
  cases h
  have h:=ap
  refine Jb1 ?_
  cases h
  exact Jw1 _ ⟨a4,N,R,W.wk R,aJ,aZ,R⟩<|KM R
  obtain⟨dL,h,ap⟩:=BI h;unfold me at h
  have aV:=dct al
  refine Jq<|Jh3 [2,2,2,2] 2 R<|Jo3 R U178 R R<|Jb 1 R<|Jw2 R aV<|Js<|Jp<|Jq<|Jv<|Ji3 [2,2,2,2,2,1,2,2,1,2,2,1,2,2,2,2,1] 4 R<|Ob h λd0 bP h=>Jd3 R M bP U178 Z4<|Jc3 R I4 ((M.stp<|T4 k m g W).gBool bP)<|Jn 1 R<|Ob h λdP h c7=>Jg4 [1,2,5,6,7,8,9,39,40] 53 dP a4 dU [(7,2),(8,1),(9,2),(10,2),(11,1),(12,2),(13,2),(14,2)] [(15,2),(16,1)] tv ?_ ?_
  revert h
  cases ep:d0
  refine JF λh=>Jn 1 R<|Ja4 R<|Jn 2 R<|Ja4 R<|Jn 3 R ?_
  cases h
  exact Jh4 tv R
  have a5:=(T4 k m g W)
  refine JT λh=>Je3 R U210 R Z37<|Jc3 R I37 ((aK.stp a5).ld 1 R R)<|Jn 1 R<|Ob h λeW bQ h=>Jd3 R ai bQ U37 Z2<|Jc3 R I2 ((ai.stp a5).gInt bQ)<|Jn 3 R ?_
  cases h
  exact Jh4 tv R
  rintro _ eO _ ⟨rfl,cq,ba⟩
  have h:=c7
  refine Ob h λeX dv h=>Jf R (Jg2 aJ.rdc dv U178 Z4 R R aZ R)<|Ob h λb9 bU h=>Jk1 (J:=cq) (E:=Do) 6 [] R R R R R R R R Z4 R R R R (aJ.stp ba) bU λeP cr cB cU=>Tv<|?_
  have dg:aw.length=b9.length:=aZ.trans (Ju2 bU).2.2.2.symm
  refine Jo<|Jz<|Jp<|Jg3 R<|wr2 bK al M.len_le ▸ ?_
  cases h
  exact Ja2 ⟨cr,H+1,b9,R,(T3 W ba cB).wk R,cU,dg,nxz bK,nxm al,ap⟩ R
  rintro _ eN ⟨cp,ar,rfl,p,cT,df,rfl⟩
  have h:=yI c6
  refine Jp<|Jh3 [2,1,2,2,2,1,1,2] 1 R ?_
  have bp:=aK.stp (T4 k m g p)
  refine Jc4 tv R (Jd4 (haE bp.cells) I210 Z210 R)<|Jn 3 R<|Ob h λeY dw h=>?_
  have bq:=bo.stp (T4 k m g p)
  have br:=ai.stp (T4 k m g p)
  have bs:=bw.stp (T4 k m g p)
  have bt:=bx.stp (T4 k m g p)
  have bu:=bF.stp (T4 k m g p)
  have bv:=M.stp (T4 k m g p)
  refine Js3 R call272 (Ret.cast (by simp only[df,List.cons_append,List.nil_append])<|ov (J:=Mk cp) (p0:=p0) (Jj3 bq) (Jj3 br) (Jj3 bs) (Jj3 bt) (Jj3 bu) (Jj3 bv) (Jj3 cT.rdc) dw) ?_
  rintro _ eQ ⟨eu,ea,eg,rfl,cG,cV⟩
  obtain⟨cs,q,dF⟩:=Ji cG 7 R
  refine Tv<|Ob h λd1 dx h=>?_
  have C:=bv.stp q
  refine Js3 R call271 (qP (J:=Mk cs) (Jj3 C) (Jj3 (cV.mx dA dF R (R:7+2=9)).rdc) dx) ?_
  rintro _ eR ⟨ev,ec,d6,rfl,cH,cW⟩
  obtain⟨ct,o,dG⟩:=Ji cH 10 R
  refine Tv<|?_
  have aL:=cW.mx dA dG R (R:10+2=12)
  refine Jb 1 R<|Je [1,2,1,2] R ?_
  have bz:=bp.stp (q.tr o)
  refine Jc4 tv R (Jd4 (haE bz.cells) I210 Z210 R)<|Jn 1 R<|Ob h λd2 dy h=>?_
  have bA:=bq.stp (q.tr o)
  have bB:=br.stp (q.tr o)
  have bC:=bs.stp (q.tr o)
  have bD:=bt.stp (q.tr o)
  have bE:=bu.stp (q.tr o)
  refine Js3 R call250 (bY (J:=Mk ct) (p0:=p0) (Jj3 bA) (Jj3 bB) (Jj3 bC) (Jj3 bD) (Jj3 bE) (Jj3 aL.rdc) dy) ?_
  rintro _ eS ⟨ew,ef,ee,rfl,cI,cX⟩
  obtain⟨cu,i,dH⟩:=Ji cI 13 R
  refine Tv<|?_
  have bG:=cX.mx dA dH R (R:13+2=15)
  refine Jb 1 R<|Jh3 [2,2,1,2] 1 R<|Jo3 R U178 R R<|Ob h λax dz h=>Jl1 (J:=cu) (E:=Do) (z:=(false:Bool)) 16 R R R R R R R Y178 da R R R R R (λ_ _ _=>R) (Jv2 dz) λbb bc b8 aB f cJ=>Tv<|Jb 1 R<|Jf3 R<|Jq<|Jf3 R<|Ob h λb2 dh cY=>?_
  clear h
  refine Jp3 [1,2,6,7,12] (λd e b=>∃c,∃E:Bool×VB,e=(13,.bool E.1)::d/\Stp [16] aB b8 c b/\Oc Do 4 c b 16 bb bc E.2/\ax.length=E.2.length/\b2=Dv E) ?_ ?_
  refine Jv<|Jq3 [1,2,6,7,10,11,12] (λa d e b=>∃c u,∃t:Bool×VB,e=(13,.bool t.1)::(14,vi u)::d/\Stp [16] aB b8 c b/\Oc Do 4 c b 16 bb bc t.2/\ax.length=t.2.length/\0<=u/\Dq ((p1.length:Int)-u)=a/\cntM (j9 Q d1 d2) a u t=some b2) ⟨_,_,⟨aB,0,(false,ax),R,Jk3,cJ,R,(by decide),(by simp),dh⟩,(KM R)⟩ ?_
  rintro a _ dR ⟨a0,u,t,rfl,T,aD,aW,c8,bH,h⟩
  rcases a with _|a
  have am:=h;obtain⟨dI,h⟩:=exq am
  have D:=dcf bH
  refine Jq<|Jh3 [2,2,2,2] 2 R<|Jo3 R U178 R R<|Jb 1 R<|Jx2 R D<|Jc1<|Jt<|Jt ?_
  cases h
  have h:=am
  refine Jb1 ?_
  cases h
  exact Jw1 _ ⟨a0,(t.1,t.2),R,T.wk R,aD,aW,R⟩<|KM R
  obtain⟨dI,h,am⟩:=BI h;unfold j9 at h
  have D:=dct bH
  refine Jq<|Jh3 [2,2,2,2] 2 R<|Jo3 R U178 R R<|Jb 1 R<|Jw2 R D<|Js<|Jp<|Jq<|Jv<|Jh3 [2,2,2,2,2,1,2,2,2,2,1,2,2,2,2,2,1] 4 R<|Ob h λd3 bR h=>Jd3 R aL.rdc bR U178 Z4<|Jc3 R I4 ((aL.stp<|T3 i f T).rdc.gBool bR)<|Jn 1 R<|Ob h λdQ h cZ=>Jg4 [1,2,6,7,10,11,12,13,14,74,75] 88 dQ a0 dR [(7,2),(8,2),(9,2),(10,1),(11,2),(12,2),(13,2),(14,2)] [(15,2),(16,1)] tv ?_ ?_
  revert h
  cases ei:d3
  refine JF λh=>Jn 3 R<|Ja4 R<|Jn 4 R ?_
  cases h
  exact Jh4 tv R
  refine JT λh=>Jn 2 R<|Ob h λeZ bS h=>Jd3 R bG.rdc bS U178 Z4<|Jc3 R I4 ((bG.stp<|f.tr T).rdc.gBool bS)<|Jn 2 R<|Jf R (A0 R R runUnderlying4 R)<|Jn 1 R ?_
  cases h
  exact Jh4 tv R
  rintro _ eA _ ⟨rfl,cd,a6⟩
  have h:=cZ
  refine Ob h λe0 dB h=>Jf R (Jg2 aD.rdc dB U178 Z4 R R aW R)<|Ob h λca bV h=>Jk1 (J:=cd) (E:=Do) 16 [] R R R R R R R R Z4 R R R R (aD.stp a6) bV λdS ce cv aE=>Tv<|?_
  have bL:ax.length=ca.length:=aW.trans (Ju2 bV).2.2.2.symm
  refine Jd<|Ji3 [2,2,2,2,2,1,2,2] 2 R<|Ob h λbZ h c0=>Jg4 [1,2,6,7,10,11,12,13,14] 96 bZ ce dS [(2,2),(3,2),(4,2),(5,1),(6,2)] [(7,2)] tv ?_ ?_
  revert h
  cases ej:t.1
  refine JF λh=>Jn 2 R<|Ob h λe1 bT h=>Jf R (Jg2 aE.rdc bT U178 Z4 R R bL R)<|Jc3 R I4 (aE.rdc.gBool bT)<|Jn 1 R ?_
  cases h
  exact Jh4 tv R
  refine JT λh=>Jn 3 R<|Ja4 R<|Jn 1 R ?_
  cases h
  exact Jh4 tv R
  rintro _ eB _ ⟨rfl,cf,a7⟩
  have h:=c0
  refine Jc 1 R<|Jz<|Jp<|Jg3 R ?_
  have dl:IntKind.wrap .i64 (u+1)=u+1:=wr1 c8 (Jn2 D) C.len_le
  rw[dl]
  have D:=Jn2 D
  cases h
  exact Ja2 ⟨cf,u+1,(bZ,ca),R,(T4 T a6 cv a7).wk R,(aE.stp a7),bL,by omega,by omega,am⟩ R
  rintro _ b4 ⟨S,E,rfl,j,cK,c9,rfl⟩
  have h:=yI cY
  refine Jp<|Jq<|Jf3 R ?_
  revert h
  cases ek:(!E.1)
  refine JF λh=>Jy R<|Js<|Jp<|Je [1,2,2,2,2,1,2] R ?_
  have bf:=bz.stp (T3 i f j)
  refine Jc4 tv R (Jd4 (haE bf.cells) I210 Z210 R)<|Jn 4 R<|Ob h λdW dn h=>?_
  have bg:=bA.stp (T3 i f j)
  have bh:=bB.stp (T3 i f j)
  have bi:=bC.stp (T3 i f j)
  have bj:=bD.stp (T3 i f j)
  have bk:=bE.stp (T3 i f j)
  have bl:=C.stp (T4 o i f j)
  refine Js3 R call272 (Ret.cast (by simp only[c9,List.cons_append,List.nil_append])<|ov (J:=Mk S) (p0:=p0) (Jj3 bg) (Jj3 bh) (Jj3 bi) (Jj3 bj) (Jj3 bk) (Jj3 bl) (Jj3 cK.rdc) dn) ?_
  rintro _ eF ⟨er,d5,d8,rfl,cD,cN⟩
  obtain⟨a2,K,dC⟩:=Ji cD 17 R
  refine Tv<|Jb 1 R<|Jq<|Js1 (J:=a2) [2] none [(1,2),(2,2),(0,0),(3,1),(4,1),(5,2)] [] (by kernel_rfl) (by kernel_rfl) λeH A=>Jn 2 R<|Jg R (Jd4 (haC (bf.stp<|K.tr A).cells R) I210 Z210 R)<|Ob h λeU dp h=>?_
  have bm:=bl.stp (K.tr A)
  have aG:=(cN.mx dA dC R (R:17+2=19)).stp A
  refine Js3 R call271 (qP (J:=Mk a2) (Jj3 bm) (Jj3 aG.rdc) dp) ?_
  rintro _ eI ⟨es,ed,d9,rfl,cE,cO⟩
  obtain⟨ck,B,dD⟩:=Ji cE 20 R
  have I:=(T3 K A B)
  refine⟨(B.cl R),Ob h λdX dq h=>Js3 R call250 (bY (J:=Mk ck) (p0:=p0) (Jj3<|bg.stp I) (Jj3<|bh.stp I) (Jj3<|bi.stp I) (Jj3<|bj.stp I) (Jj3<|bk.stp I) (Jj3 (cO.mx dA dD R (R:20+2=22)).rdc) dq) ?_⟩
  rintro _ b5 ⟨et,d7,eb,rfl,cF,cP⟩
  obtain⟨ay,U,dE⟩:=Ji cF 23 R
  refine⟨((B.tr U).cl R),?_⟩
  have bn:=cP.mx dA dE R (R:23+2=25)
  refine Jn 1 R<|Jt1<|Jd<|Jq<|Jf3 R<|Ob h λb0 dj c3=>?_
  clear h
  refine Jp3 [6] (λd e b=>∃c,∃aq:VB,e=d/\Stp [5] ay b5 c b/\Oc Do 4 c b 5 y x aq/\v.length=aq.length/\b0=Dv aq) ?_ ?_
  refine Jv<|Jq3 [1,6,7,16,17] (λa d e b=>∃c G,∃O:VB,e=(18,vi G)::d/\Stp [5] ay b5 c b/\Oc Do 4 c b 5 y x O/\v.length=O.length/\0<=G/\Dq ((p1.length:Int)-G)=a/\cntM (mg Q dW dX) a G O=some b0) ⟨_,_,⟨ay,0,v,R,Jk3,(aH.stp<|T11 g p q o i f j K A B U),R,(by decide),(by simp),dj⟩,(KM R)⟩ ?_
  rintro a _ b6 ⟨az,G,O,rfl,V,aI,aY,bJ,ak,h⟩
  rcases a with _|a
  have ao:=h;obtain⟨dK,h⟩:=exq ao
  have aU:=dcf ak
  refine Jq<|Jh3 [2,2,2,2] 2 R<|Jo3 R U178 R R<|Jb 1 R<|Jx2 R aU<|Jc1<|Jt<|Jt ?_
  cases h
  have h:=ao
  refine Jb1 ?_
  cases h
  exact Jw1 _ ⟨az,O,R,V.wk R,aI,aY,R⟩<|KM R
  obtain⟨dK,h,ao⟩:=BI h;unfold mg at h
  have aU:=dct ak
  refine Jq<|Jh3 [2,2,2,2] 2 R<|Jo3 R U178 R R<|Jb 1 R<|Jw2 R aU<|Js<|Jp<|Jq<|Jv<|Ji3 [2,2,2,2,2,1,2,2,2,2,1,2,2,2,2,2,2,1] 4 R<|Ob h λdY bN h=>Jd3 R bn.rdc bN U178 Z4<|Jc3 R I4 ((bn.stp V).rdc.gBool bN)<|Jn 1 R<|Ob h λdO h c4=>Jg4 [1,6,7,16,17,18,134,135] 149 dO az b6 [(7,2),(8,2),(9,2),(10,1),(11,2),(12,2),(13,2),(14,2),(15,2)] [(16,2),(17,1)] tv ?_ ?_
  revert h
  cases en:dY
  refine JF λh=>Jn 2 R<|Ob h λdZ bO h=>Jd3 R aG.rdc bO U178 Z4<|Jc3 R I4 ((aG.stp<|T3 B U V).rdc.gBool bO)<|Jn 1 R<|Ob h λdN h c5=>Jg4 [1,6,7,16,17,18,134,135,140,141,142,143,144,145] 148 dN az b6 [(12,2),(13,2),(14,2)] [(15,2)] tv ?_ ?_
  revert h
  cases eo:dZ
  refine JF λh=>Jn 3 R ?_
  cases h
  exact Jh4 tv R
  refine JT λh=>Jn 3 R ?_
  cases h
  exact Jh4 tv R
  rintro _ eK _ ⟨rfl,d4,cz⟩
  have h:=c5
  refine Jn 1 R ?_
  cases h
  exact Jv1 _ tv ⟨R,_,cz.wk R⟩<|KM R
  refine JT λh=>Jn 3 R<|Ja4 R<|Jn 5 R ?_
  cases h
  exact Jh4 tv R
  rintro _ eL _ ⟨rfl,cn,a9⟩
  have h:=c4
  refine Ob h λeV dr h=>Jf R (Jg2 aI.rdc dr U178 Z4 R R aY R)<|Ob h λcc bX h=>Jk1 (J:=cn) (E:=Do) 5 [] R R R R R R R R Z4 R R R R (aI.stp a9) bX λeM co cA cR=>Tv<|?_
  have de:v.length=cc.length:=aY.trans (Ju2 bX).2.2.2.symm
  refine Jo<|Jz<|Jp<|Jg3 R<|wr2 bJ ak bm.len_le ▸ ?_
  cases h
  exact Ja2 ⟨co,G+1,cc,R,(T3 V a9 cA).wk R,cR,de,nxz bJ,nxm ak,ao⟩ R
  rintro _ eJ ⟨cm,aq,rfl,cy,cQ,dd,rfl⟩
  have h:=yI c3
  refine Jp<|Jf3 R<|Ju<|Jb2 (l:=[.tmp 4]) results250 (Jq2 R R) R ?_
  cases h
  exact⟨(λL=>ren [(5,2)]<|cm L),y,x,(by simp only[dd]),((aS.stp<|T15 s k m g p q o i f j K A B U cy).map (ren [(5,2)]) R R),(cQ.map (ren [(5,2)]) R R)⟩
  refine JT λh=>Jx R<|Jq<|Jf3 R<|Ob h λb3 di c1=>?_
  clear h
  refine Jp3 [6] (λd e b=>∃c,∃au:VB,e=d/\Stp [5] S b4 c b/\Oc Do 4 c b 5 y x au/\v.length=au.length/\b3=Dv au) ?_ ?_
  refine Jv<|Jq3 [1,6,7] (λa d e b=>∃c F,∃P:VB,e=(15,vi F)::d/\Stp [5] S b4 c b/\Oc Do 4 c b 5 y x P/\v.length=P.length/\0<=F/\Dq ((p1.length:Int)-F)=a/\cntM (mf p1 Q) a F P=some b3) ⟨_,_,⟨S,0,v,R,Jk3,(aH.stp<|T7 g p q o i f j),R,(by decide),(by simp),di⟩,(KM R)⟩ ?_
  rintro a _ dT ⟨a1,F,P,rfl,aC,aF,aX,bI,aj,h⟩
  rcases a with _|a
  have an:=h;obtain⟨dJ,h⟩:=exq an
  have aT:=dcf aj
  refine Jq<|Jh3 [2,2,2,2] 2 R<|Jo3 R U178 R R<|Jb 1 R<|Jx2 R aT<|Jc1<|Jt<|Jt ?_
  cases h
  have h:=an
  refine Jb1 ?_
  cases h
  exact Jw1 _ ⟨a1,P,R,aC.wk R,aF,aX,R⟩<|KM R
  obtain⟨dJ,h,an⟩:=BI h;unfold mf at h
  have aT:=dct aj
  refine Jq<|Jh3 [2,2,2,2] 2 R<|Jo3 R U178 R R<|Jb 1 R<|Jw2 R aT<|Js<|Jp<|Jq<|Jv<|Ji3 [2,2,2,2,2,1,2,2,2,2,2,1] 4 R<|Ob h λdV bM h=>Jd3 R C bM U178 Z4<|Jc3 R I4 ((C.stp<|T5 o i f j aC).gBool bM)<|Jn 1 R<|Ob h λdM h c2=>Jg4 [1,6,7,15,105,106] 114 dM a1 dT [(7,2),(8,2),(9,2)] [(10,2),(11,1)] tv ?_ ?_
  revert h
  cases el:dV
  refine JF λh=>Jn 3 R ?_
  cases h
  exact Jh4 tv R
  refine JT λh=>Jn 3 R ?_
  cases h
  exact Jh4 tv R
  rintro _ eD _ ⟨rfl,ci,a8⟩
  have h:=c2
  refine Ob h λeT dm h=>Jf R (Jg2 aF.rdc dm U178 Z4 R R aX R)<|Ob h λcb bW h=>Jk1 (J:=ci) (E:=Do) 5 [] R R R R R R R R Z4 R R R R (aF.stp a8) bW λeE cj cx cM=>Tv<|?_
  have dc:v.length=cb.length:=aX.trans (Ju2 bW).2.2.2.symm
  refine Jo<|Jz<|Jp<|Jg3 R<|wr2 bI aj C.len_le ▸ ?_
  cases h
  exact Ja2 ⟨cj,F+1,cb,R,(T3 aC a8 cx).wk R,cM,dc,nxz bI,nxm aj,an⟩ R
  rintro _ eC ⟨cg,au,rfl,cw,cL,db,rfl⟩
  have h:=yI c1
  refine Jp<|Jf3 R<|Ju<|Jw<|Jb2 (l:=[.tmp 4]) results250 (Jq2 R R) R ?_
  cases h
  exact⟨(λL=>ren [(5,2)]<|cg L),y,x,(by simp only[db]),((aS.stp<|T11 s k m g p q o i f j cw).map (ren [(5,2)]) R R),(cL.map (ren [(5,2)]) R R)⟩
  refine JT λh=>Jx R<|Jf3 R<|Ju<|Jw<|Jb2 (l:=[.tmp 4]) results250 (Jq2 R R) R ?_
  cases h
  exact⟨(λL=>ren [(5,2)]<|a3 L),y,x,R,((aS.stp<|T3 s k m).map (ren [(5,2)]) R R),(aH.map (ren [(5,2)]) R R)⟩
theorem pj {aj af ad ae ar ah}{p0:watch}{ag ak ai ac}{p1:Pair}{al}(a9:Rd Rs J w 0 aj af p0.next) (ba:Rd Rs J w 0 ad ae p0.letters) (bb:Rd Pair.rp J w 0 ar ah p0.pairs) (bc:Rd Ri J w 0 ag ak p1.Ask) (bd:Rd Ri J w 0 ai ac p1.Give) (be:Bc J w 0 al 172 [.slice aj p0.next.length af,.slice ad p0.letters.length ae,.slice ar p0.pairs.length ah]){r:VI}(h:gc p0 p1=some r):Ret prog 149 [.pointer (some ⟨al,0,none⟩),.agg #[.slice ag p1.Ask.length ak,.slice ai p1.Give.length ac]] w (Pvs E6 2 J w r):=by
 unfold gc at h
 refine Jl3 J func149 R ntmps149 R λbf=>Je [1,2] R<|Jt3 J 2 R λbL bU aD o a1=>Tv<|Jb 1 R<|Je [1,2] R<|Jy3 aD E6 3 R Y37 bS R λaS aR b0 Z j a4=>Tv<|Jb 1 R<|Jq<|Jq<|Js1 (J:=Z) [0,2] none [(0,2),(1,2),(2,2),(4,2),(5,2),(10,2),(3,0),(6,0),(7,1),(8,1),(9,2)] [] (by kernel_rfl) (by kernel_rfl) λbW g=>Jn 1 R<|Jf R (bX R R)<|Je3 R U172 R Z31<|Jn 1 R<|Je3 R U127 R Z37<|Jn 1 R ?_
 have am:=be.stp (T3 o j g)
 refine Jg R (Jd2 I31 R R<|hvC (am.ld 0 R R) R) ?_
 have an:=a1.stp (j.tr g)
 refine Jg R (Jd2 I37 R R<|hvC (an.ld 1 R R) R)<|Ob h λb7 bn h=>?_
 have ao:=a9.stp (T3 o j g)
 have Q:=(T3 o j g)
 refine Js3 R call210 (pi (J:=Mk Z) (p0:=p0) (Jj3 ao) (Jj3<|ba.stp Q) (Jj3<|bb.stp Q) (Jj3<|bd.stp Q) (am.map (mp [] 0) R R) bn) ?_
 rintro _ bx ⟨bN,bE,bG,rfl,aV,aZ⟩
 obtain⟨aE,f,bt⟩:=Ji aV 4 R
 refine⟨(f.cl R),?_⟩
 obtain⟨aF,i,bC⟩:=gD aE bx 6
 refine Ob h λaB bo h=>Js3 R call164 (um (J:=λy=>mp [] 1<|aF y) (Jm2 (ao.stp<|f.tr i) (mp [] 1) R R) (Jm2 (Sl.st bC (aZ.mx dA bt R (R:4+2=6)).rdc) (mp [] 1) R R) bo) ?_
 rintro _ az ⟨bO,bF,bJ,rfl,aW,a0⟩
 obtain⟨O,p,bu,bD⟩:=Jj aW 7 R
 refine⟨((T3 f i p).cl R),?_⟩
 have T:=a0.mxz bD bu R (R:7+2=9)
 refine Jo3 R U31 R R<|Jt1<|Jd<|Ob h λax bl bg=>?_
 clear h
 refine Jp3 [0] (λd e a=>∃b,∃N:VI,∃D G,e=(5,.slice D N.length G)::d/\Stp [3] O az b a/\Oc E6 2 b a 3 D G N/\ax=Dv N) ?_ ?_
 refine Jv<|Jq3 [0,3,19,20] (λc d e a=>∃b m,∃k:VI,∃t u,e=(5,.slice t k.length u)::(21,vi m)::d/\Stp [3] O az b a/\Oc E6 2 b a 3 t u k/\0<=m/\Dq ((aB.length:Int)-m)=c/\cntM (em p1 aB) c m k=some ax) ⟨_,_,⟨O,0,([]:VI),aS,aR,R,Jk3,(a4.stp<|T4 g f i p),(by decide),(by simp),bl⟩,(KM R)⟩ ?_
 rintro c _ aA ⟨B,m,k,t,u,rfl,q,ap,aq,I,h⟩
 rcases c with _|c
 have L:=h;obtain⟨bv,h⟩:=exq L
 have W:=dcf I
 refine Jf3 R<|Jq<|Jx2 R W<|Jc1<|Jt<|Jt ?_
 cases h
 have h:=L
 refine Jb1 ?_
 cases h
 exact Jw1 _ ⟨B,k,t,u,R,q.wk R,ap,R⟩<|KM R
 obtain⟨bv,h,L⟩:=BI h;unfold em at h
 have W:=dct I
 refine Jf3 R<|Jq<|Jw2 R W<|Js<|Jp<|Jq<|Jv<|Je [2,1,2] R<|Ob h λaC av h=>Jd3 R T.rdc av U31 Z37 ?_
 obtain⟨bK,bT,U,bj⟩:=(T.stp q).gZ av
 refine Jc3 R I37 bj<|Jb 1 R<|Jh3 [2,2,2] 1 R<|Jo3 R U37 R R<|Jb 1 R<|Ob h λay bm bh=>?_
 clear h
 refine Jp3 [0,3,19,20,21] (λd e a=>∃b,∃A:VI,∃H C,e=(5,.slice H A.length C)::d/\Stp [3] B aA b a/\Oc E6 2 b a 3 H C A/\ay=Dv A) ?_ ?_
 refine Jv<|Jq3 [0,3,19,20,21,25,26] (λc d e a=>∃b n,∃z:VI,∃v x,e=(5,.slice v z.length x)::(27,vi n)::d/\Stp [3] B aA b a/\Oc E6 2 b a 3 v x z/\0<=n/\Dq ((aC.length:Int)-n)=c/\cntM (en p1 aC) c n z=some ay) ⟨_,_,⟨B,0,k,t,u,R,Jk3,ap,(by decide),(by simp),bm⟩,(KM R)⟩ ?_
 rintro c _ b2 ⟨aa,n,z,v,x,rfl,s,V,au,K,h⟩
 rcases c with _|c
 have M:=h;obtain⟨bw,h⟩:=exq M
 have X:=dcf K
 refine Jf3 R<|Jq<|Jx2 R X<|Jc1<|Jt<|Jt ?_
 cases h
 have h:=M
 refine Jb1 ?_
 cases h
 exact Jw1 _ ⟨aa,z,v,x,R,s.wk R,V,R⟩<|KM R
 obtain⟨bw,h,M⟩:=BI h;unfold en at h
 have X:=dct K
 refine Jf3 R<|Jq<|Jw2 R X<|Js<|Jp<|Jq<|Jv<|Je [2,1,2] R<|Ob h λbA aw h=>Jd3 R U aw U37 Z2<|Jc3 R I2 ((U.stp s).gInt aw)<|Jb 1 R<|Je [2,1,2,1] R<|Je3 R U127 R Z37<|Jc3 R I37 ((an.stp<|T5 f i p q s).ld 0 R R)<|Jn 1 R<|Ob h λbB bp h=>Js3 R C89 (cj (J:=Mk aa) (Jj3<|bc.stp<|T8 o j g f i p q s) bp) ?_
 rintro _ bz ⟨bP,rfl,aX⟩
 obtain⟨P,S,bR⟩:=Ji aX 10 R
 refine Tv<|Jd<|Ob h λY h bi=>Jp3 [0,3,19,20,21,25,26,27] (λd e a=>∃b E F,e=(5,.slice E Y.length F)::d/\Stp [3] P bz b a/\Oc E6 2 b a 3 E F Y) ?_ ?_
 revert h
 cases bM:bB
 refine JF λh=>Jy R<|Js ?_
 cases h
 exact Jw1 _ ⟨P,v,x,R,Jk3,(V.stp S)⟩<|KM R
 refine JT λh=>Jx R<|Ji3 [2,2,1,1,2] 2 R<|Je4 P 12 [bA] R Y37 bS R λbI bH b4 aJ ab a6=>Tv<|Ob h λb8 bq h=>Jz3 aJ E6 3 [] R Y37 bS R (V.stp<|S.tr ab) (Sl.srcP (cc _) a6.rdc) bV bq R λaU aT b5 aK aQ a7=>Tv<|Jc 1 R ?_
 cases h
 exact Jw1 _ ⟨aK,aU,aT,R,(ab.tr aQ).wk R,a7⟩<|KM R
 rintro _ b3 ⟨aI,E,F,rfl,aP,a5⟩
 have h:=bi
 refine Jz<|Jp<|Jg3 R<|wr2 au K U.len_le ▸ ?_
 cases h
 exact Ja2 ⟨aI,n+1,Y,E,F,R,(T3 s S aP).wk R,a5,nxz au,nxm K,M⟩ R
 rintro _ b1 ⟨aH,A,H,C,rfl,aO,a3,rfl⟩
 have h:=yI bh
 refine Jz<|Jp<|Jg3 R<|wr2 aq I T.len_le ▸ ?_
 cases h
 exact Ja2 ⟨aH,m+1,A,H,C,R,(q.tr aO).wk R,a3,nxz aq,nxm I,L⟩ R
 rintro _ bY ⟨aG,N,D,G,rfl,aN,a2,rfl⟩
 have h:=yI bg
 refine Jp<|Jh3 [2,1] 1 R<|Ob h λb9 br h=>Js3 R call106 (dY (J:=λy=>mp [(3,2)] 0<|aG y) (a2.map (mp [(3,2)] 0) R R) br) ?_
 rintro _ b6 ⟨bQ,rfl,aY,a8,bk⟩
 obtain⟨aL,aM,bs⟩:=Ji aY 10 R
 refine Tv<|Jd<|Jf3 R<|Ju<|Jb2 (l:=[.tmp 4]) results149 (Jq2 R R) R ?_
 cases h
 exact⟨(λy=>ren [(12,2)]<|aL y),D,G,(by simp only[(bk)]),((bf.stp<|T8 o j g f i p aN aM).map (ren [(12,2)]) R R),((a8.mx (bZ _) bs R (R:10+2=12)).map (ren [(12,2)]) R R)⟩
end
end Go.Proofs.YtleekpaohfpooaaGreat
