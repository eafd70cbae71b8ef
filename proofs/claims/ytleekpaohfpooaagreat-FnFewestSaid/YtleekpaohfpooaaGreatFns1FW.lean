/- The walks, part 1. By program. -/
import Derived.Test.YtleekpaohfpooaaGreatFnsMFW
import Derived.Test.YtleekpaohfpooaaGreatAlFW
set_option linter.unusedVariables false
set_option linter.unusedSimpArgs false
open Go.IntKind renaming wrap → cb
open Sum renaming inr → eg, inl → gs
open Int renaming toNat → n6
namespace Go.Proofs.YtleekpaohfpooaaGreat
open Go Go.Wk Go.Proofs
set_option maxRecDepth 100000
set_option maxHeartbeats 1000000
variable {w:World}{κ:Col}
theorem wH {a b}{p0:(List Int)}(c:Rd (Rp.int .u8) κ w 0 a b p0){r:Bool}(h:uW p0=some r):Ret Tryz.prog 8 [.slice a p0.length b] w (Pvb κ w r):=by
 unfold uW at h
 refine Jk3 κ F8 R N8 R λhE=>Je3 R<|Jg3 [2,2,2,2] 1 R<|Jn3 R U22 R R<|Jb 2 R<|Ju<|Ja2 (l:=[.tmp 2]) V8 (Jp2 R R) R ?_
 cases h
 exact⟨κ,R,hE⟩
theorem vI {e f}{p0:(List Int)}{p1:Int}(j:Rd (Rp.int .u8) κ w 0 e f p0){r:dice}(h:pC p0 p1=some r):Ret Tryz.prog 9 [.slice e p0.length f,.int .u64 p1] w (λv w'=>∃(κ':Col) (C:Option Addr) (F:Nat) (D:Nat),v= .pointer (some ⟨D,0,none⟩)/\Ent κ w κ' w'/\Rd (Rp.int .u8) κ' w' 0 C F r.b/\(Bc κ' w' 3 D 65 [.slice C r.b.length F,vi r.i,.int .u64 r.h])):=by
 unfold pC at h
 refine Jk3 κ F9 R N9 R λhE=>Je3 R<|Jg3 [2,2,2,2,2,2,2,2,1,2] 4 R<|Jn3 R U22 R R<|Jf R (Jh2 U3 U26 R R)<|Jn 1 R<|Jf R (Ji4 [.slice e p0.length f,vi 0,.int .u64 (IntKind.u64.wrap ((IntKind.u64.wrap<|p1 * 7919)+(IntKind.u64.wrap (p0.length:Int))))] R)<|Js3 (κ:=κ) 2 R λq w1 m p K=>Tv<|Jb 1 R<|Jq<|Je3 R ?_
 have N:(p0.length:Int)<=9223372036854775807:=j.len_le
 refine Ob h λB P M=>?_
 clear h
 refine Jo3 [5] (λE L w'=>∃κ' t,L=E/\Stp [2] m w1 κ' w'/\Bc κ' w' 2 q 65 [.slice e p0.length f,vi 0,.int .u64 t]/\B=eg t) ?_ ?_
 refine Jv<|Jp3 [0,5] (λk E L w'=>∃κ' c d,L=(6,vi c)::E/\Stp [2] m w1 κ' w'/\Bc κ' w' 2 q 65 [.slice e p0.length f,vi 0,.int .u64 d]/\0<=c/\n6 ((p0.length:Int)-c)=k/\cntM (kW p0) k c d=some B) ⟨_,_,⟨m,0,((IntKind.u64.wrap ((IntKind.u64.wrap<|p1 * 7919)+(IntKind.u64.wrap (p0.length:Int)))):Int),R,Jj3,K,(by decide),(by simp),P⟩,(KM R)⟩ ?_
 rintro k _ U ⟨i,c,d,rfl,n,y,O,T,h⟩
 rcases k with _ | k
 have s:=h;obtain⟨S,h⟩:=cn (eg (gs d):dice⊕((Int)⊕(Int)))
 have g:decide (c<(p0.length:Int))=false:=Jo2 (by omega)
 refine Jq<|Jg3 [2,2,2,2] 2 R<|Jn3 R U22 R R<|Jb 1 R<|Jw2 R g<|Jc1<|Jt<|Jt ?_
 cases h
 have h:=s
 refine Jb1 ?_
 cases h
 exact Jw1 _ ⟨i,d,R,n.wk R,y,R⟩<|KM R
 obtain⟨S,h,s⟩:=BI h;unfold kW at h
 have g:decide (c<(p0.length:Int))=true:=Jn2 (by omega)
 refine Jq<|Jg3 [2,2,2,2] 2 R<|Jn3 R U22 R R<|Jb 1 R<|Jv2 R g<|Js<|Jp<|Jq<|Jv<|Js1 (κ:=i) [0,2] (some 15) [(0,2),(1,2),(2,2),(3,2),(6,2),(7,2),(8,2),(4,0),(5,2),(9,0),(10,2),(11,2),(12,2),(13,2),(14,2)] [(15,1)] (by kernel_rfl) (by kernel_rfl) λV o=>Jn 2 R<|Jf R (bY R R)<|Jd3 R U65 R Z26<|Jn 2 R<|Ob h λu A h=>Jc3 R j A U22 Z5 ?_
 have z:=y.stp o
 refine Jg R (Jc2 I26 R R<|hvC (z.ld 2 R R) R)<|Jn 1 R<|Jg R (Jc2 I5 R R<|hvC ((j.stp<|T3 p n o).gInt A) R)<|Jf R (Jh2 U5 U26 R R)<|Jn 2 R<|Jf R (bY R R)<|Jd3 R U65 R Z26<|Jt1<|Ju3 (κ:=i) 2 (off:=2) (vc:=[.int .u64 (IntKind.u64.wrap ((IntKind.u64.wrap ((IntKind.u64.wrap<|d * 1099511628211)+(IntKind.u64.wrap u)))+3))]) (cs':=[.slice e p0.length f,vi 0,.int .u64 (IntKind.u64.wrap ((IntKind.u64.wrap ((IntKind.u64.wrap<|d * 1099511628211)+(IntKind.u64.wrap u)))+3))]) R Z26 R z R λW H J=>Tv<|Jo<|Jz<|Jp<|Jf3 R ?_
 have Q:cb .i64 (c+1)=c+1:=wr1 O (Jm2 g) N
 rw[Q]
 have g:=Jm2 g
 cases h
 exact Jz1 λa ha=>⟨k,_,Ja3 _,⟨i,c+1,((IntKind.u64.wrap ((IntKind.u64.wrap ((IntKind.u64.wrap<|d * 1099511628211)+(IntKind.u64.wrap u)))+3)):Int),R,(T3 n o H).wk R,J,by omega,by omega,s⟩,(ha.mm R)⟩
 rintro _ X ⟨G,t,rfl,x,I,rfl⟩
 have h:=yI M
 refine Jp<|Je3 R<|Ju<|Ja2 (l:=[.tmp 4]) V9 (Jp2 R R) R ?_
 cases h
 exact⟨(λb=>ren [(2,3)]<|G b),e,f,q,R,((hE.stp<|p.tr x).map (ren [(2,3)]) R R),((j.stp<|p.tr x).map (ren [(2,3)]) R R),(I.map (ren [(2,3)]) R R)⟩
theorem pu {p y}{p0:(List Int)}{p1:Int}(i:Rd (Rp.int .i64) κ w 0 p y p0){r:Bool}(h:mH p0 p1=some r):Ret Tryz.prog 195 [.slice p p0.length y,vi p1] w (Pvb κ w r):=by
 unfold mH at h
 refine Jk3 κ F195 R N195 R λhE=>Je3 R<|Jq<|Jg3 [2,2,2] 1 R<|Jn3 R U37 R R<|Jb 1 R ?_
 have H:(p0.length:Int)<=9223372036854775807:=i.len_le
 refine Ob h λx J q=>?_
 clear h
 refine Jx1 (λL w'=>∃κ',L=[]/\Stp [] κ w κ' w'/\x=eg ()) ?_ ?_
 refine Jv<|Jp3 [0,1,7,8] (λk E L w'=>∃κ' b,L=(9,vi b)::E/\Stp [] κ w κ' w'/\0<=b/\n6 ((p0.length:Int)-b)=k/\cntM (j4 p0 p1) k b ()=some x) ⟨_,_,⟨κ,0,R,Jj3,(by decide),(by simp),J⟩,(KM R)⟩ ?_
 rintro k _ O ⟨n,b,rfl,d,I,S,h⟩
 rcases k with _ | k
 have e:=h;obtain⟨M,h⟩:=cn (eg (gs ()):Bool⊕((Unit)⊕(Unit)))
 have c:decide (b<(p0.length:Int))=false:=Jo2 (by omega)
 refine Je3 R<|Jq<|Jw2 R c<|Jc1<|Jt<|Jt ?_
 cases h
 have h:=e
 refine Jb1 ?_
 cases h
 exact Jw1 _ ⟨n,R,d.wk R,R⟩ KN
 obtain⟨M,h,e⟩:=BI h;unfold j4 at h
 have c:decide (b<(p0.length:Int))=true:=Jn2 (by omega)
 refine Je3 R<|Jq<|Jv2 R c<|Js<|Jp<|Jq<|Jv<|Jg3 [2,2,1,2,2] 1 R<|Ob h λP s h=>Jc3 R i s U37 Z2 ?_
 have g:=i.stp d
 refine Jb3 R I2 (g.gInt s)<|Jb 2 R<|Jg3 [2,2,2,2,2,2,2,2,2,2,2,2,2,2,2,2,1,2,2,2] 3 R<|Ob h λu h D=>Jf4 [0,1,5,6,7,8,9] 20 u n O [(3,2),(4,2),(5,2),(6,2)] [(7,2),(8,2),(9,2),(10,2),(11,2),(12,2),(13,2),(14,2),(15,2),(16,1),(17,2),(18,2),(19,2)] tv ?_ ?_
 revert h
 cases T:decide (P<0)
 refine JF λh=>Jn 4 R ?_
 cases h
 exact Jg4 tv R
 refine JT λh=>Jn 4 R ?_
 cases h
 exact Jg4 tv R
 rintro _ z _ ⟨rfl,j,f⟩
 have h:=D
 refine Jn 1 R<|Ob h λv h F=>Jf4 [0,1,7,8,9] 33 v j z [(8,2),(9,2),(10,2),(11,2),(12,2),(13,2),(14,2),(15,2),(16,1),(17,2),(18,2),(19,2)] [] tv ?_ ?_
 revert h
 cases U:u
 refine JF λh=>Jn 3 R<|Ob h λN h G=>Jf4 [0,1,7,8,9,21,22,23,24] 32 N j z [(11,2),(12,2),(13,2),(14,2),(15,2),(16,1),(17,2),(18,2)] [(19,2)] tv ?_ ?_
 revert h
 cases V:decide (0<b)
 refine JF λh=>Jn 5 R<|Jz3 R<|Jn 2 R ?_
 cases h
 exact Jg4 tv R
 refine JT λh=>Jn 4 R<|Ob h λaa t h=>Jc3 R g t U37 Z2<|Jb3 R I2 ((g.stp f).gInt t)<|Jn 2 R ?_
 cases h
 exact Jg4 tv R
 rintro _ X _ ⟨rfl,Q,B⟩
 have h:=G
 refine Jn 1 R ?_
 cases h
 exact Jv1 _ tv ⟨R,_,B.wk R⟩<|KM R
 refine JT λh=>Jn 8 R<|Jz3 R<|Jn 3 R ?_
 cases h
 exact Jg4 tv R
 rintro _ Y _ ⟨rfl,m,o⟩
 have h:=F
 refine Jd ?_
 revert h
 cases W:v
 refine JF λh=>Jy R<|Js<|Jz<|Jp<|Jf3 R ?_
 have K:cb .i64 (b+1)=b+1:=wr1 I (Jm2 c) H
 rw[K]
 have c:=Jm2 c
 cases h
 exact Jz1 λa ha=>⟨k,_,Ja3 _,⟨m,b+1,R,(T3 d f o).wk R,by omega,by omega,e⟩,(ha.mm R)⟩
 refine JT λh=>Jx R<|Je3 R<|Ju<|Ja1<|Jw<|Jw ?_
 cases h
 obtain rfl:=Option.some.inj e
 have h:=yL q
 refine Ja1<|Jq2<|Jw<|Ja2 (l:=[.tmp 4]) V195 (Jp2 R R) R ?_
 cases h
 exact⟨m,R,(hE.stp<|T3 d f o)⟩
 rintro _ Z ⟨A,rfl,C,rfl⟩
 have h:=yI q
 refine Jp<|Je3 R<|Ju<|Ja2 (l:=[.tmp 4]) V195 (Jp2 R R) R ?_
 cases h
 exact⟨A,R,(hE.stp C)⟩
theorem pz {p0:Int}{p1:Int}  {r:Machine}(h:gY p0 p1=some r):Ret Tryz.prog 64 [vi p0,vi p1] w (λv w'=>∃(κ':Col) (bw:Option Addr) (bz:Nat) (bx:Option Addr) (bA:Nat),v= .agg #[.slice bw r.Next.length bz,.slice bx r.Out.length bA]/\Ent κ w κ' w'/\Oc (Ep.own E6 2) 37 κ' w' 2 bw bz r.Next/\Oc (Ep.own E6 2) 37 κ' w' 3 bx bA r.Out):=by
 unfold gY at h
 refine Jk3 κ F64 R N64 R λhE=>Je [1] R<|Jt3 (κ:=κ) 2 R X33 R λdy w1 V b8 cL=>Tv<|Jd<|Jq<|Ob h λc an h=>Ob h λd ao h=>Jo3 [0,1,4] (λE L w'=>∃κ' m A x y B,L=(5,.pointer (some ⟨m,0,none⟩))::E/\Stp [3,4,5] V w1 κ' w'/\Oc (Ep.own E6 2) 37 κ' w' 3 A x ((⟨c,d⟩:Machine).Next)/\Oc (Ep.own E6 2) 37 κ' w' 4 y B ((⟨c,d⟩:Machine).Out)/\Bc κ' w' 5 m 33 [.slice A ((⟨c,d⟩:Machine).Next).length x,.slice y ((⟨c,d⟩:Machine).Out).length B]) ?_ ?_
 refine WC.rxt (κ:=V) [] none (by kernel_rfl) λdJ K=>Jq1 (fuel:=5) [(0,2),(2,2)] (by kernel_rfl) (by kernel_rfl) R<|Jn 2 R<|Jp1<|WA.fork3 (fuel:=4) 1 3 5 (by kernel_rfl) R ?_ ?_ ?_
 refine Jl1 (κ:=V) (E:=(Ep.own E6 2)) (z:=(([]:List Int):(List Int))) 3 R R R R R R R Y31 bT R R R R R (λ_ _ _=>⟨none,0,R,Ow.nil⟩) (Ju2 an) λj f dM aV s be=>⟨(s.cl R),Jp1<|WA.fork2 (fuel:=3) 3 5 (by kernel_rfl) R ?_ ?_⟩
 exact Jl1 (κ:=aV) (E:=(Ep.own E6 2)) (z:=(([]:List Int):(List Int))) 4 R R R R R R R Y31 bT R R R R R (λ_ _ _=>⟨none,0,R,Ow.nil⟩) (Ju2 ao) λi g dU bP ac cu=>⟨((s.tr ac).cl R),Jp1<|Jq1 (fuel:=0) [(4,2),(5,1),(6,1)] (by kernel_rfl) (by kernel_rfl) R<|Jf R (Ji4 [.slice j c.length f,.slice i d.length g] R)<|Jt3 (κ:=bP) 5 R X33 R λm dZ aW ad cB=>⟨((T3 s ac ad).cl R),Jh4 (κ:=aW) 5 R Z33 R cB R λd5 aq cI=>⟨((T4 s ac ad aq).cl R),Jp1<|Jr1 [] (by kernel_rfl) (by kernel_rfl) R<|Jo<|Jw1 _ ⟨aW,m,j,f,i,g,R,(T5 K s ac ad aq).wk R,(be.stp<|T3 ac ad aq),(cu.stp<|ad.tr aq),cI⟩<|KM R⟩⟩⟩
 exact Jt3 (κ:=aV) 4 R X33 R λm d7 bZ ae cJ=>⟨((s.tr ae).cl R),Jp1<|Jq1 (fuel:=0) [(3,1),(4,2),(6,1)] (by kernel_rfl) (by kernel_rfl) R<|Jl1 (κ:=bZ) (E:=(Ep.own E6 2)) (z:=(([]:List Int):(List Int))) 5 R R R R R R R Y31 bT R R R R R (λ_ _ _=>⟨none,0,R,Ow.nil⟩) (Ju2 ao) λi g d8 aY af cK=>⟨((T3 s ae af).cl R),Jf R (Ji4 [.slice j c.length f,.slice i d.length g] R)<|Jh4 (κ:=aY) 4 R Z33 R (cJ.stp af) R λd9 ar cM=>⟨((T4 s ae af ar).cl R),Jp1<|Jr1 [] (by kernel_rfl) (by kernel_rfl) R<|Jo<|Jw1 _ ⟨(λb=>ren [(5,4),(4,5)]<|aY b),m,j,f,i,g,R,(Jy2 ((T5 K s ae af ar).wk R) [(5,4),(4,5)] R),((be.stp<|T3 ae af ar).map (ren [(5,4),(4,5)]) R R),((cK.stp ar).map (ren [(5,4),(4,5)]) R R),(cM.map (ren [(5,4),(4,5)]) R R)⟩<|KM R⟩⟩⟩
 refine Jl1 (κ:=V) (E:=(Ep.own E6 2)) (z:=(([]:List Int):(List Int))) 3 R R R R R R R Y31 bT R R R R R (λ_ _ _=>⟨none,0,R,Ow.nil⟩) (Ju2 ao) λi g ea aZ t bg=>⟨(t.cl R),Jp1<|WA.fork2 (fuel:=3) 1 5 (by kernel_rfl) R ?_ ?_⟩
 exact Jl1 (κ:=aZ) (E:=(Ep.own E6 2)) (z:=(([]:List Int):(List Int))) 4 R R R R R R R Y31 bT R R R R R (λ_ _ _=>⟨none,0,R,Ow.nil⟩) (Ju2 an) λj f eb b0 ag cN=>⟨((t.tr ag).cl R),Jp1<|Jq1 (fuel:=0) [(4,2),(5,1),(6,1)] (by kernel_rfl) (by kernel_rfl) R<|Jf R (Ji4 [.slice j c.length f,.slice i d.length g] R)<|Jt3 (κ:=b0) 5 R X33 R λm ec a0 ah cO=>⟨((T3 t ag ah).cl R),Jh4 (κ:=a0) 5 R Z33 R cO R λed au cP=>⟨((T4 t ag ah au).cl R),Jp1<|Jr1 [] (by kernel_rfl) (by kernel_rfl) R<|Jo<|Jw1 _ ⟨(λb=>ren [(4,3),(3,4)]<|a0 b),m,j,f,i,g,R,(Jy2 ((T5 K t ag ah au).wk R) [(4,3),(3,4)] R),((cN.stp<|ah.tr au).map (ren [(4,3),(3,4)]) R R),((bg.stp<|T3 ag ah au).map (ren [(4,3),(3,4)]) R R),(cP.map (ren [(4,3),(3,4)]) R R)⟩<|KM R⟩⟩⟩
 exact Jt3 (κ:=aZ) 4 R X33 R λm ee b1 ai cQ=>⟨((t.tr ai).cl R),Jp1<|Jq1 (fuel:=0) [(1,1),(4,2),(6,1)] (by kernel_rfl) (by kernel_rfl) R<|Jl1 (κ:=b1) (E:=(Ep.own E6 2)) (z:=(([]:List Int):(List Int))) 5 R R R R R R R Y31 bT R R R R R (λ_ _ _=>⟨none,0,R,Ow.nil⟩) (Ju2 an) λj f ef a1 aj cR=>⟨((T3 t ai aj).cl R),Jf R (Ji4 [.slice j c.length f,.slice i d.length g] R)<|Jh4 (κ:=a1) 4 R Z33 R (cQ.stp aj) R λeh av cS=>⟨((T4 t ai aj av).cl R),Jp1<|Jr1 [] (by kernel_rfl) (by kernel_rfl) R<|Jo<|Jw1 _ ⟨(λb=>ren [(5,3),(3,4),(4,5)]<|a1 b),m,j,f,i,g,R,(Jy2 ((T5 K t ai aj av).wk R) [(5,3),(3,4),(4,5)] R),((cR.stp av).map (ren [(5,3),(3,4),(4,5)]) R R),((bg.stp<|T3 ai aj av).map (ren [(5,3),(3,4),(4,5)]) R R),(cS.map (ren [(5,3),(3,4),(4,5)]) R R)⟩<|KM R⟩⟩⟩
 refine Jt3 (κ:=V) 3 R X33 R λm ei a2 u bh=>⟨(u.cl R),Jp1<|WA.fork2 (fuel:=3) 1 3 (by kernel_rfl) R ?_ ?_⟩
 exact Jl1 (κ:=a2) (E:=(Ep.own E6 2)) (z:=(([]:List Int):(List Int))) 4 R R R R R R R Y31 bT R R R R R (λ_ _ _=>⟨none,0,R,Ow.nil⟩) (Ju2 an) λj f ej b2 ak cT=>⟨((u.tr ak).cl R),Jp1<|Jq1 (fuel:=0) [(3,1),(4,2),(6,1)] (by kernel_rfl) (by kernel_rfl) R<|Jl1 (κ:=b2) (E:=(Ep.own E6 2)) (z:=(([]:List Int):(List Int))) 5 R R R R R R R Y31 bT R R R R R (λ_ _ _=>⟨none,0,R,Ow.nil⟩) (Ju2 ao) λi g ek a3 al cU=>⟨((T3 u ak al).cl R),Jf R (Ji4 [.slice j c.length f,.slice i d.length g] R)<|Jh4 (κ:=a3) 3 R Z33 R (bh.stp<|ak.tr al) R λel aw cW=>⟨((T4 u ak al aw).cl R),Jp1<|Jr1 [] (by kernel_rfl) (by kernel_rfl) R<|Jo<|Jw1 _ ⟨(λb=>ren [(4,3),(5,4),(3,5)]<|a3 b),m,j,f,i,g,R,(Jy2 ((T5 K u ak al aw).wk R) [(4,3),(5,4),(3,5)] R),((cT.stp<|al.tr aw).map (ren [(4,3),(5,4),(3,5)]) R R),((cU.stp aw).map (ren [(4,3),(5,4),(3,5)]) R R),(cW.map (ren [(4,3),(5,4),(3,5)]) R R)⟩<|KM R⟩⟩⟩
 exact Jl1 (κ:=a2) (E:=(Ep.own E6 2)) (z:=(([]:List Int):(List Int))) 4 R R R R R R R Y31 bT R R R R R (λ_ _ _=>⟨none,0,R,Ow.nil⟩) (Ju2 ao) λi g em b3 am cX=>⟨((u.tr am).cl R),Jp1<|Jq1 (fuel:=0) [(1,1),(4,2),(6,1)] (by kernel_rfl) (by kernel_rfl) R<|Jl1 (κ:=b3) (E:=(Ep.own E6 2)) (z:=(([]:List Int):(List Int))) 5 R R R R R R R Y31 bT R R R R R (λ_ _ _=>⟨none,0,R,Ow.nil⟩) (Ju2 an) λj f en a4 W cd=>⟨((T3 u am W).cl R),Jf R (Ji4 [.slice j c.length f,.slice i d.length g] R)<|Jh4 (κ:=a4) 3 R Z33 R (bh.stp<|am.tr W) R λdH ap ce=>⟨((T4 u am W ap).cl R),Jp1<|Jr1 [] (by kernel_rfl) (by kernel_rfl) R<|Jo<|Jw1 _ ⟨(λb=>ren [(5,3),(3,5)]<|a4 b),m,j,f,i,g,R,(Jy2 ((T5 K u am W ap).wk R) [(5,3),(3,5)] R),((cd.stp ap).map (ren [(5,3),(3,5)]) R R),((cX.stp<|W.tr ap).map (ren [(5,3),(3,5)]) R R),(ce.map (ren [(5,3),(3,5)]) R R)⟩<|KM R⟩⟩⟩
 rintro _ bD ⟨aB,m,A,x,y,B,rfl,a9,cV,cc,ax⟩
 refine Jp<|Jq<|Je3 R<|Ob h λbt dh cY=>?_
 clear h
 refine Jo3 [4,5] (λE L w'=>∃κ',∃Q:Int×Int×(List<|List Int)×(List<|List Int),L=E/\Stp [3,4,6,7] aB bD κ' w'/\Oc (Ep.own E6 2) 37 κ' w' 3 A x Q.2.2.1/\((⟨c,d⟩:Machine).Next).length=Q.2.2.1.length/\Oc (Ep.own E6 2) 37 κ' w' 4 y B Q.2.2.2/\((⟨c,d⟩:Machine).Out).length=Q.2.2.2.length/\bt=eg Q) ?_ ?_
 refine Jv<|Jp3 [1,4,5] (λk E L w'=>∃κ',∃e:Int×Int×(List<|List Int)×(List<|List Int),L=(0,vi e.1)::(6,vi e.2.1)::E/\Stp [3,4,6,7] aB bD κ' w'/\Oc (Ep.own E6 2) 37 κ' w' 3 A x e.2.2.1/\((⟨c,d⟩:Machine).Next).length=e.2.2.1.length/\Oc (Ep.own E6 2) 37 κ' w' 4 y B e.2.2.2/\((⟨c,d⟩:Machine).Out).length=e.2.2.2.length/\bU (j7 p1) k e=some bt) ⟨_,_,⟨aB,(p0,((IntKind.i64.wrap<|p1-1):Int),((⟨c,d⟩:Machine).Next:(List<|List Int)),((⟨c,d⟩:Machine).Out:(List<|List Int))),R,Jj3,cV,R,cc,R,dh⟩,(KM R)⟩ ?_
 rintro k _ dp ⟨U,e,rfl,X,M,N,G,H,h⟩
 rcases k with _ | k
 cases h
 obtain⟨dC,h,bi⟩:=BI h;unfold j7 at h
 refine Jq<|Je3 R ?_
 revert h
 cases dz:decide (0<=e.2.1)
 refine JF λh=>Jy R<|Jc1<|Jt<|Jt ?_
 cases h
 have h:=bi
 refine Jb1 ?_
 cases h
 exact Jw1 _ ⟨U,(e.1,e.2.1,e.2.2.1,e.2.2.2),R,X.wk R,M,N,G,H,R⟩<|KM R
 refine JT λh=>Jx R<|Js<|Jp<|Jq<|Jv<|Jq<|Ob h λeo bn h=>Ob h λeq bo h=>Ob h λep aP h=>Ob h λS O h=>Ob h λer aQ h=>Ob h λT P h=>Jo3 [0,1,4,5,6] (λE L w'=>∃κ',L=E/\Stp [3,4,6,7] U dp κ' w'/\Oc (Ep.own E6 2) 37 κ' w' 3 A x S/\((⟨c,d⟩:Machine).Next).length=S.length/\Oc (Ep.own E6 2) 37 κ' w' 4 y B T/\((⟨c,d⟩:Machine).Out).length=T.length) ?_ ?_
 refine WC.rxt (κ:=U) [5] none (by kernel_rfl) λdK q=>Jq1 (fuel:=6) [(0,2),(2,2),(3,2),(5,2),(1,0),(4,0)] (by kernel_rfl) (by kernel_rfl) R<|Jd3 R U33 R Z31<|Jn 1 R<|Jd3 R U33 R Z31<|Jn 1 R ?_
 have bc:=ax.stp (X.tr q)
 refine Jg R (Jc2 I31 R R<|hvC (bc.ld 0 R R) R)<|Jg R (Jc2 I31 R R<|hvC (bc.ld 1 R R) R)<|Jp1<|WA.fork2 (fuel:=5) 6 7 (by kernel_rfl) R ?_ ?_
 refine Jl1 (κ:=U) (E:=E6) (z:=(0:Int)) 6 R R R R R R R Y37 a8 R R R R R (λ_ _ _=>R) (Ju2 bn) λb9 cb dL aU n bd=>⟨(n.cl R),Jp1<|Jq1 (fuel:=4) [(8,2)] (by kernel_rfl) (by kernel_rfl) R<|Jf R (Jf2 M.rdc bo U31 Z37 R R N R)<|Jp1<|WA.fork2 (fuel:=3) 7 9 (by kernel_rfl) R ?_ ?_⟩
 refine Jl1 (κ:=aU) (E:=E6) (z:=(0:Int)) 7 R R R R R R R Y37 a8 R R R R R (λ_ _ _=>R) (Ju2 aP) λba bb dN bG C cj=>⟨((n.tr C).cl R),Jp1<|Jq1 (fuel:=0) [(9,1),(10,2),(11,1)] (by kernel_rfl) (by kernel_rfl) R<|Jk1 (κ:=bG) (E:=(Ep.own E6 2)) 3 [6] R R R R R R R R Z37 R ⟨_,_,R,(bd.stp C)⟩ R R (M.stp<|T3 q n C) O λdO bH Y ck=>⟨((T3 n C Y).cl R),?_⟩⟩
 have c5:((⟨c,d⟩:Machine).Next).length=S.length:=N.trans (Jt2 O).2.2.2.symm
 refine Jf R (Jf2 G.rdc aQ U31 Z37 R R H R)<|Jk1 (κ:=bH) (E:=(Ep.own E6 2)) 4 [7] R R R R R R R R Z37 R ⟨_,_,R,(cj.stp Y)⟩ R R (G.stp<|T4 q n C Y) P λdP bI aE cl=>⟨((T4 n C Y aE).cl R),?_⟩
 have c6:((⟨c,d⟩:Machine).Out).length=T.length:=H.trans (Jt2 P).2.2.2.symm
 exact Jp1<|Jr1 [] (by kernel_rfl) (by kernel_rfl) R<|Jo<|Jw1 _ ⟨bI,R,(T5 q n C Y aE).wk R,(ck.stp aE),c5,cl,c6⟩<|KM R
 refine Jk1 (κ:=aU) (E:=(Ep.own E6 2)) 3 [6] R R R R R R R R Z37 R ⟨_,_,R,bd⟩ R R (M.stp<|q.tr n) O λdQ bJ Z cm=>⟨((n.tr Z).cl R),?_⟩
 have c7:((⟨c,d⟩:Machine).Next).length=S.length:=N.trans (Jt2 O).2.2.2.symm
 refine Jp1<|Jq1 (fuel:=0) [(7,1),(10,2),(11,1)] (by kernel_rfl) (by kernel_rfl) R<|Jl1 (κ:=bJ) (E:=E6) (z:=(0:Int)) 7 R R R R R R R Y37 a8 R R R R R (λ_ _ _=>R) (Ju2 aP) λba bb dR bK aa cn=>⟨((T3 n Z aa).cl R),Jf R (Jf2 G.rdc aQ U31 Z37 R R H R)<|Jk1 (κ:=bK) (E:=(Ep.own E6 2)) 4 [7] R R R R R R R R Z37 R ⟨_,_,R,cn⟩ R R (G.stp<|T4 q n Z aa) P λdS bL aF co=>⟨((T4 n Z aa aF).cl R),?_⟩⟩
 have c8:((⟨c,d⟩:Machine).Out).length=T.length:=H.trans (Jt2 P).2.2.2.symm
 exact Jp1<|Jr1 [] (by kernel_rfl) (by kernel_rfl) R<|Jo<|Jw1 _ ⟨bL,R,(T5 q n Z aa aF).wk R,(cm.stp<|aa.tr aF),c7,co,c8⟩<|KM R
 refine Jl1 (κ:=U) (E:=E6) (z:=(0:Int)) 6 R R R R R R R Y37 a8 R R R R R (λ_ _ _=>R) (Ju2 aP) λba bb dT bM D cp=>⟨(D.cl R),Jp1<|Jq1 (fuel:=0) [(6,1),(8,2),(9,1),(10,2),(11,1)] (by kernel_rfl) (by kernel_rfl) R<|Jl1 (κ:=bM) (E:=E6) (z:=(0:Int)) 7 R R R R R R R Y37 a8 R R R R R (λ_ _ _=>R) (Ju2 bn) λb9 cb dV bN F cq=>⟨((D.tr F).cl R),Jf R (Jf2 M.rdc bo U31 Z37 R R N R)<|Jk1 (κ:=bN) (E:=(Ep.own E6 2)) 3 [7] R R R R R R R R Z37 R ⟨_,_,R,cq⟩ R R (M.stp<|T3 q D F) O λdW bO ab cr=>⟨((T3 D F ab).cl R),?_⟩⟩⟩
 have c9:((⟨c,d⟩:Machine).Next).length=S.length:=N.trans (Jt2 O).2.2.2.symm
 refine Jf R (Jf2 G.rdc aQ U31 Z37 R R H R)<|Jk1 (κ:=bO) (E:=(Ep.own E6 2)) 4 [6] R R R R R R R R Z37 R ⟨_,_,R,(cp.stp<|F.tr ab)⟩ R R (G.stp<|T4 q D F ab) P λdX bQ aG cs=>⟨((T4 D F ab aG).cl R),?_⟩
 have da:((⟨c,d⟩:Machine).Out).length=T.length:=H.trans (Jt2 P).2.2.2.symm
 exact Jp1<|Jr1 [] (by kernel_rfl) (by kernel_rfl) R<|Jo<|Jw1 _ ⟨bQ,R,(T5 q D F ab aG).wk R,(cr.stp aG),c9,cs,da⟩<|KM R
 rintro _ bB ⟨az,rfl,aD,ch,c3,ci,c4⟩
 refine Jp<|Jq<|Je3 R<|Ob h λbu di cZ=>?_
 clear h
 refine Jo3 [1,4,5,6] (λE L w'=>∃κ',∃I:Int×Int×(List<|List Int),L=(0,vi I.1)::E/\Stp [4,6] az bB κ' w'/\Oc (Ep.own E6 2) 37 κ' w' 4 y B I.2.2/\((⟨c,d⟩:Machine).Out).length=I.2.2.length/\bu=eg I) ?_ ?_
 refine Jv<|Jp3 [1,4,5,6] (λk E L w'=>∃κ',∃o:Int×Int×(List<|List Int),L=(0,vi o.1)::(7,vi o.2.1)::E/\Stp [4,6] az bB κ' w'/\Oc (Ep.own E6 2) 37 κ' w' 4 y B o.2.2/\((⟨c,d⟩:Machine).Out).length=o.2.2.length/\bU (j8 e) k o=some bu) ⟨_,_,⟨az,(e.1,(1:Int),T),R,Jj3,ci,c4,di⟩,(KM R)⟩ ?_
 rintro k _ dY ⟨bR,o,rfl,aI,ay,aN,h⟩
 rcases k with _ | k
 cases h
 obtain⟨dD,h,bj⟩:=BI h;unfold j8 at h
 refine Jq<|Je3 R ?_
 revert h
 cases dA:decide (0<=o.2.1)
 refine JF λh=>Jy R<|Jc1<|Jt<|Jt ?_
 cases h
 have h:=bj
 refine Jb1 ?_
 cases h
 exact Jw1 _ ⟨bR,(o.1,o.2.1,o.2.2),R,aI.wk R,ay,aN,R⟩<|KM R
 refine JT λh=>Jx R<|Js<|Jp<|Jq<|Jv<|Je [2,1,2,2,1,2,2,2,2,1] R<|Jd3 R U33 R Z31<|Jb3 R I31 ((ax.stp<|T3 X aD aI).ld 1 R R)<|Jn 1 R<|Ob h λdq aR h=>Jf R (Jf2 ay.rdc aR U31 Z37 R R aN R) ?_
 obtain⟨dw,dF,cv,bl⟩:=ay.rdc.gSl aR
 refine Jb3 R I37 bl<|Jn 2 R<|Jf R (rR R R R (by decide))<|Ob h λes dk h=>Jc3 R cv dk U37 Z2 ?_
 obtain⟨bS,b4,cw,cx⟩:=ay.borrow aR (bl _ (Ag.refl _ _ _)) 6 R R
 refine Ob h λds bp h=>Jk1 (κ:=bS) (E:=E6) 6 [] R R R R R R R R Z2 R R R R cw bp λd0 du a5 cy=>Tv<|?_
 have dc:dq.length=ds.length:=(Jt2 bp).2.2.2.symm
 refine Ob h λbE br h=>?_
 obtain⟨bV,b5,cz⟩:=Ow.unborrow (cx.stp a5) cy dc R R br
 have dd:((⟨c,d⟩:Machine).Out).length=bE.length:=aN.trans (Jt2 br).2.2.2.symm
 refine Jd<|Jh3 [2,2,2] 1 R<|Jf R (xe R R R (by decide))<|Jc 1 R<|Jz<|Jp<|Jf3 R ?_
 cases h
 exact Jz1 λa ha=>⟨k,_,Ja3 _,⟨bV,(((IntKind.i64.wrap<|Int.tdiv o.1 2):Int),((IntKind.i64.wrap<|o.2.1-1):Int),bE),R,(T4 aI b4 a5 b5).wk R,cz,dd,bj⟩,(ha.mm R)⟩
 rintro _ bC ⟨aA,I,rfl,aH,ct,db,rfl⟩
 have h:=yI cZ
 refine Jp<|Je3 R<|Ob h λbv dj c0=>?_
 clear h
 refine Jo3 [1,4,5,6] (λE L w'=>∃κ',∃J:Int×Int×(List<|List Int),L=(0,vi J.1)::E/\Stp [3,6] aA bC κ' w'/\Oc (Ep.own E6 2) 37 κ' w' 3 A x J.2.2/\((⟨c,d⟩:Machine).Next).length=J.2.2.length/\bv=eg J) ?_ ?_
 refine Jv<|Jp3 [1,4,5,6] (λk E L w'=>∃κ',∃p:Int×Int×(List<|List Int),L=(0,vi p.1)::(8,vi p.2.1)::E/\Stp [3,6] aA bC κ' w'/\Oc (Ep.own E6 2) 37 κ' w' 3 A x p.2.2/\((⟨c,d⟩:Machine).Next).length=p.2.2.length/\bU (j9 p1 e) k p=some bv) ⟨_,_,⟨aA,(I.1,(1:Int),S),R,Jj3,(ch.stp aH),c3,dj⟩,(KM R)⟩ ?_
 rintro k _ d2 ⟨aX,p,rfl,aJ,aM,aO,h⟩
 rcases k with _ | k
 cases h
 obtain⟨dE,h,bk⟩:=BI h;unfold j9 at h
 refine Jq<|Je3 R ?_
 revert h
 cases dB:decide (0<=p.2.1)
 refine JF λh=>Jy R<|Jc1<|Jt<|Jt ?_
 cases h
 have h:=bk
 refine Jb1 ?_
 cases h
 exact Jw1 _ ⟨aX,(p.1,p.2.1,p.2.2),R,aJ.wk R,aM,aO,R⟩<|KM R
 refine JT λh=>Jx R<|Js<|Jp<|Jq<|Jv<|Jq<|Js1 (κ:=aX) [0,3,5] (some 10) [(0,2),(2,2),(5,2),(6,2),(7,2),(8,2),(1,0),(3,2),(4,0),(9,2)] [(10,1)] (by kernel_rfl) (by kernel_rfl) λd3 aK=>Jd3 R U33 R Z31<|Jn 4 R<|Ob h λ_z57 dm h=>Jf R (rR R R R<|wU dm)<|Jg R (Jc2 I31 R R<|hvC ((ax.stp<|T5 X aD aH aJ aK).ld 0 R R) R)<|Ob h λdr aS h=>Jf R (Jf2 aM.rdc aS U31 Z37 R R aO R) ?_
 have bf:=aM.stp aK
 obtain⟨dx,dG,cC,bm⟩:=bf.rdc.gSl aS
 refine Jg R (Jc2 I37 R R<|hvC bm R)<|Ob h λet dl h=>Jc3 R cC dl U37 Z2<|Jt1 ?_
 obtain⟨bX,b6,cD,cE⟩:=bf.borrow aS (bm _ (Ag.refl _ _ _)) 6 R R
 refine Ob h λdt bq h=>Jk1 (κ:=bX) (E:=E6) 6 [] R R R R R R R R Z2 R R R R cD bq λd4 dv a7 cF=>Tv<|?_
 have df:dr.length=dt.length:=(Jt2 bq).2.2.2.symm
 refine Ob h λbF bs h=>?_
 obtain⟨bY,b7,cG⟩:=Ow.unborrow (cE.stp a7) cF df R R bs
 have dg:((⟨c,d⟩:Machine).Next).length=bF.length:=aO.trans (Jt2 bs).2.2.2.symm
 refine Jd<|Jh3 [2,2,2,2] 2 R<|Ob h λ_z61 dn h=>Jf R (xe R R R<|wU dn)<|Jc 1 R<|Jz<|Jp<|Jf3 R ?_
 cases h
 exact Jz1 λa ha=>⟨k,_,Ja3 _,⟨bY,(((IntKind.i64.wrap<|Int.tdiv p.1 p1):Int),((IntKind.i64.wrap<|p.2.1-1):Int),bF),R,(T5 aJ aK b6 a7 b7).wk R,cG,dg,bk⟩,(ha.mm R)⟩
 rintro _ d1 ⟨bW,J,rfl,a6,cA,de,rfl⟩
 have h:=yI c0
 refine Jz<|Jp<|Jf3 R ?_
 cases h
 exact Jz1 λa ha=>⟨k,_,Ja3 _,⟨bW,(J.1,((IntKind.i64.wrap<|e.2.1-1):Int),J.2.2,I.2.2),R,(T4 X aD aH a6).wk R,cA,de,(ct.stp a6),db,bi⟩,(ha.mm R)⟩
 rintro _ dI ⟨aT,Q,rfl,aC,cf,c1,cg,c2,rfl⟩
 have h:=yI cY
 refine Jp<|Je [1,1] R<|Jb4 tv R (Jc4 (haE (ax.stp aC).cells) I33 Z33 R)<|Jh4 (κ:=aT) 2 R Z33 R (cL.stp<|a9.tr aC) R λd6 aL cH=>Tv<|Jd<|Ju<|Ja2 (l:=[.cell 4 33]) V64 (ca R cH I33 Z33 R R) R ?_
 cases h
 exact⟨(λb=>ren [(3,2),(4,3)]<|aT b),A,x,y,B,(by simp only[c1,c2]),((hE.stp<|T4 b8 a9 aC aL).map (ren [(3,2),(4,3)]) R R),((cf.stp aL).map (ren [(3,2),(4,3)]) R R),((cg.stp aL).map (ren [(3,2),(4,3)]) R R)⟩
theorem mZ {p0:Sig}  {r:Int}(h:iX p0=some r):Ret Tryz.prog 46 [.agg #[vi p0.In,vi p0.Out]] w (Pvi κ w r):=by
 unfold iX at h
 refine Jk3 κ F46 R N46 R λhE=>Je [1,2] R<|Js3 (κ:=κ) 2 R λe w1 a b c=>Tv<|Jb 1 R<|Je [2,1,2,2] R<|Jd3 R U28 R Z2<|Jb3 R I2 (c.ld 0 R R)<|Ob h λ_z5 d h=>Jf R (uv R R R<|wR d)<|Jb 1 R<|Ju<|Ja2 (l:=[.tmp 2]) V46 (Jp2 R R) R ?_
 cases h
 exact⟨a,R,(hE.stp b)⟩
theorem nK {p0:Int}{c0:Int}{a}(d:Bc κ w 0 a 2 [vi c0]){r:Bool}(h:ed p0 c0=some r):Ret Tryz.prog 217 [vi p0,.pointer (some ⟨a,0,none⟩)] w (Pvb κ w r):=by
 unfold ed at h
 refine Jk3 κ F217 R N217 R λhE=>Je3 R<|Jg3 [2,2,2,2,1,2,2,2] 3 R<|Ob h λf h e=>Jf4 [1,3] 10 f κ w [(3,2),(4,1),(5,2),(6,2)] [(7,2)] tv ?_ ?_
 revert h
 cases g:decide (p0<0)
 refine JF λh=>Jn 1 R<|Jb3 R I2 (d.ld 0 R R)<|Jn 2 R ?_
 cases h
 exact Jg4 tv R
 refine JT λh=>Jn 1 R<|Jz3 R<|Jn 2 R ?_
 cases h
 exact Jg4 tv R
 rintro _ i _ ⟨rfl,b,c⟩
 have h:=e
 refine Jb 1 R<|Ju<|Ja2 (l:=[.tmp 3]) V217 (Jp2 R R) R ?_
 cases h
 exact⟨b,R,(hE.stp c)⟩
theorem lE {i o}{p0:(List Int)}{p1:Int}(g:Rd (Rp.int .i64) κ w 0 i o p0){r:Int}(h:cM p0 p1=some r):Ret Tryz.prog 49 [.slice i p0.length o,vi p1] w (Pvi κ w r):=by
 unfold cM at h
 refine Jk3 κ F49 R N49 R λhE=>Je3 R<|Jq<|Jg3 [2,2,2] 1 R<|Jn3 R U37 R R<|Jb 1 R ?_
 have s:(p0.length:Int)<=9223372036854775807:=g.len_le
 refine Ob h λn u j=>?_
 clear h
 refine Jx1 (λL w'=>∃κ',L=[]/\Stp [] κ w κ' w'/\n=eg ()) ?_ ?_
 refine Jv<|Jp3 [0,1,7] (λk E L w'=>∃κ' b,L=(8,vi b)::E/\Stp [] κ w κ' w'/\0<=b/\n6 ((p0.length:Int)-b)=k/\cntM (cW p0 p1) k b ()=some n) ⟨_,_,⟨κ,0,R,Jj3,(by decide),(by simp),u⟩,(KM R)⟩ ?_
 rintro k _ C ⟨f,b,rfl,d,t,z,h⟩
 rcases k with _ | k
 have e:=h;obtain⟨x,h⟩:=cn (eg (gs ()):Int⊕((Unit)⊕(Unit)))
 have c:decide (b<(p0.length:Int))=false:=Jo2 (by omega)
 refine Je3 R<|Jq<|Jw2 R c<|Jc1<|Jt<|Jt ?_
 cases h
 have h:=e
 refine Jb1 ?_
 cases h
 exact Jw1 _ ⟨f,R,d.wk R,R⟩ KN
 obtain⟨x,h,e⟩:=BI h;unfold cW at h
 have c:decide (b<(p0.length:Int))=true:=Jn2 (by omega)
 refine Je3 R<|Jq<|Jv2 R c<|Js<|Jp<|Jq<|Jv<|Je3 R<|Jg3 [2,2,2,2,1,2] 3 R<|Ob h λy m h=>Jc3 R g m U37 Z2<|Jb3 R I2 ((g.stp d).gInt m)<|Jb 1 R ?_
 revert h
 cases A:(p1==y)
 refine JF λh=>Jy R<|Js<|Jz<|Jp<|Jf3 R ?_
 have v:cb .i64 (b+1)=b+1:=wr1 t (Jm2 c) s
 rw[v]
 have c:=Jm2 c
 cases h
 exact Jz1 λa ha=>⟨k,_,Ja3 _,⟨f,b+1,R,d.wk R,by omega,by omega,e⟩,(ha.mm R)⟩
 refine JT λh=>Jx R<|Je3 R<|Ju<|Ja1<|Jw<|Jw ?_
 cases h
 obtain rfl:=Option.some.inj e
 have h:=yL j
 refine Ja1<|Jq2<|Jw<|Ja2 (l:=[.tmp 4]) V49 (Jp2 R R) R ?_
 cases h
 exact⟨f,R,(hE.stp d)⟩
 rintro _ B ⟨p,rfl,q,rfl⟩
 have h:=yI j
 refine Jp<|Je3 R<|Ju<|Ja2 (l:=[.tmp 4]) V49 (Jp2 R R) R ?_
 cases h
 exact⟨p,R,(hE.stp q)⟩
theorem iT {n s}{p0:(List (Int×Int))}{p1:(Int×Int)}(m:Rd (Rp.pair (Rp.int .i64) (Rp.int .i64)) κ w 0 n s p0){r:Int}(h:cI p0 p1=some r):Ret Tryz.prog 170 [.slice n p0.length s,.agg #[vi p1.1,vi p1.2]] w (Pvi κ w r):=by
 unfold cI at h
 refine Jk3 κ F170 R N170 R λhE=>Je [1,2] R<|Js3 (κ:=κ) 2 R λG w1 i j x=>Tv<|Jb 1 R<|Jq<|Jg3 [2,2,2] 1 R<|Jn3 R U123 R R<|Jb 1 R ?_
 have y:(p0.length:Int)<=9223372036854775807:=m.len_le
 refine Ob h λq B o=>?_
 clear h
 refine Jx1 (λL w'=>∃κ',L=[]/\Stp [] i w1 κ' w'/\q=eg ()) ?_ ?_
 refine Jv<|Jp3 [0,3,7] (λk E L w'=>∃κ' b,L=(8,vi b)::E/\Stp [] i w1 κ' w'/\0<=b/\n6 ((p0.length:Int)-b)=k/\cntM (cG p0 p1) k b ()=some q) ⟨_,_,⟨i,0,R,Jj3,(by decide),(by simp),B⟩,(KM R)⟩ ?_
 rintro k _ K ⟨e,b,rfl,d,z,I,h⟩
 rcases k with _ | k
 have g:=h;obtain⟨F,h⟩:=cn (eg (gs ()):Int⊕((Unit)⊕(Unit)))
 have c:decide (b<(p0.length:Int))=false:=Jo2 (by omega)
 refine Je3 R<|Jq<|Jw2 R c<|Jc1<|Jt<|Jt ?_
 cases h
 have h:=g
 refine Jb1 ?_
 cases h
 exact Jw1 _ ⟨e,R,d.wk R,R⟩ KN
 obtain⟨F,h,g⟩:=BI h;unfold cG at h
 have c:decide (b<(p0.length:Int))=true:=Jn2 (by omega)
 refine Je3 R<|Jq<|Jv2 R c<|Js<|Jp<|Jq<|Jv<|Je3 R<|Jq<|Js1 (κ:=e) [0,2] none [(1,2),(2,2),(3,2),(0,0),(4,0),(5,2)] [] (by kernel_rfl) (by kernel_rfl) λM f=>Jn 2 R<|Ob h λt p h=>Jc3 R m p U123 Z120<|Jg R (Jc4 (haC (x.stp<|d.tr f).cells R) I120 Z120 R) ?_
 obtain⟨H,C,A⟩:=((m.stp (T3 j d f))).gSt p
 obtain⟨_,_,rfl,rfl,rfl⟩:=C
 refine Jg R (Jc4 (haC A R) I120 Z120 R)<|Jf R (xa U120 (by kernel_rfl) I2 U2 Z2 R R R)<|Jt1<|Jd ?_
 revert h
 cases J:((p1.1==t.1)&&(p1.2==t.2))
 refine JF λh=>Jy R<|Js<|Jz<|Jp<|Jf3 R ?_
 have D:cb .i64 (b+1)=b+1:=wr1 z (Jm2 c) y
 rw[D]
 have c:=Jm2 c
 cases h
 exact Jz1 λa ha=>⟨k,_,Ja3 _,⟨e,b+1,R,(d.tr f).wk R,by omega,by omega,g⟩,(ha.mm R)⟩
 refine JT λh=>Jx R<|Je3 R<|Ju<|Ja1<|Jw<|Jw ?_
 cases h
 obtain rfl:=Option.some.inj g
 have h:=yL o
 refine Ja1<|Jq2<|Jw<|Ja2 (l:=[.tmp 4]) V170 (Jp2 R R) R ?_
 cases h
 exact⟨e,R,(hE.stp<|T3 j d f)⟩
 rintro _ N ⟨u,rfl,v,rfl⟩
 have h:=yI o
 refine Jp<|Je3 R<|Ju<|Ja2 (l:=[.tmp 4]) V170 (Jp2 R R) R ?_
 cases h
 exact⟨u,R,(hE.stp<|j.tr v)⟩
theorem py {p0:Int}{a1 k}{c0:(List Int)}{b}(q:Oc E6 2 κ w 2 a1 k c0) (g:Bc κ w 3 b 37 [.slice a1 c0.length k]){r:(List Int)}(h:mh p0 c0=some r):Ret Tryz.prog 220 [vi p0,.pointer (some ⟨b,0,none⟩)] w (λv w'=>∃(κ':Col) (i:Option Addr) (j:Nat),v= .tuple #[]/\Ent κ w κ' w'/\Oc E6 2 κ' w' 2 i j r/\Bc κ' w' 3 b 37 [.slice i r.length j]):=by
 unfold mh at h
 refine Jk3 κ F220 R N220 R λhE=>Ja [1,2,1,1,1] R<|Jb3 R I37 (g.ld 0 R R)<|Jn 1 R<|Jd4 (κ:=κ) 4 [p0] R Y37 a8 R λu x w1 m a o=>Tv<|Ob h λt s h=>Jy3 (κ:=m) (E:=E6) 2 [] R Y37 a8 R (q.stp a) (Sl.srcP (co _) o.rdc) bZ s R λf l z c e p=>Tv<|Jv3 (κ:=c) 3 (vc:=[.slice f t.length l]) R Z37 R (g.stp<|a.tr e) R λy d n=>Tv<|Jo<|DN.end0 V220 ?_
 cases h
 exact⟨c,f,l,R,(hE.stp<|T3 a e d),(p.stp d),n⟩
theorem cP {p0:Int}{p1:Int}{p2:Int}  {r:Bool}(h:dQ p0 p1 p2=some r):Ret Tryz.prog 59 [vi p0,vi p1,vi p2] w (Pvb κ w r):=by
 unfold dQ at h
 refine Jk3 κ F59 R N59 R λhE=>Je3 R<|Jg3 [2,2,2,2,2,2,2,2,2] 4 R<|Ob h λd h c=>Jf4 [6] 14 d κ w [(4,2),(5,2),(6,2),(7,2)] [(8,2)] tv ?_ ?_
 revert h
 cases e:decide (p1<=p0)
 refine JF λh=>Jn 4 R ?_
 cases h
 exact Jg4 tv R
 refine JT λh=>Jn 4 R ?_
 cases h
 exact Jg4 tv R
 rintro _ f _ ⟨rfl,a,b⟩
 have h:=c
 refine Jb 1 R<|Ju<|Ja2 (l:=[.tmp 6]) V59 (Jp2 R R) R ?_
 cases h
 exact⟨a,R,(hE.stp b)⟩
theorem r8 {p0:Int}  {r:Bool}(h:mR p0=some r):Ret Tryz.prog 211 [vi p0] w (Pvb κ w r):=by
 unfold mR at h
 refine Jk3 κ F211 R N211 R λhE=>Je3 R<|Jg3 [2,2,2,2,2,2,2,2,2,2,2] 3 R<|Ob h λa h f=>Jf4 [0,2] 8 a κ w [(3,2),(4,2),(5,2)] [(6,2),(7,2),(8,2),(9,2),(10,2)] tv ?_ ?_
 revert h
 cases k:(p0==2)
 refine JF λh=>Jn 3 R ?_
 cases h
 exact Jg4 tv R
 refine JT λh=>Jn 3 R ?_
 cases h
 exact Jg4 tv R
 rintro _ j _ ⟨rfl,b,e⟩
 have h:=f
 refine Jn 1 R<|Ob h λi h g=>Jf4 [2] 12 i b j [(7,2),(8,2),(9,2)] [(10,2)] tv ?_ ?_
 revert h
 cases m:a
 refine JF λh=>Jn 3 R ?_
 cases h
 exact Jg4 tv R
 refine JT λh=>Jn 3 R ?_
 cases h
 exact Jg4 tv R
 rintro _ n _ ⟨rfl,c,d⟩
 have h:=g
 refine Jb 1 R<|Ju<|Ja2 (l:=[.tmp 2]) V211 (Jp2 R R) R ?_
 cases h
 exact⟨c,R,(hE.stp<|e.tr d)⟩
theorem jc {i o}{p0:(List Int)}{p1:Int}(g:Rd (Rp.int .i64) κ w 0 i o p0){r:Bool}(h:gJ p0 p1=some r):Ret Tryz.prog 81 [.slice i p0.length o,vi p1] w (Pvb κ w r):=by
 unfold gJ at h
 refine Jk3 κ F81 R N81 R λhE=>Je3 R<|Jq<|Je3 R ?_
 have s:(p0.length:Int)<=9223372036854775807:=g.len_le
 refine Ob h λn u j=>?_
 clear h
 refine Jx1 (λL w'=>∃κ',L=[]/\Stp [] κ w κ' w'/\n=eg ()) ?_ ?_
 refine Jv<|Jp3 [0,1] (λk E L w'=>∃κ' b,L=(5,vi b)::E/\Stp [] κ w κ' w'/\0<=b/\n6 ((p0.length:Int)-b)=k/\cntM (gN p0 p1) k b ()=some n) ⟨_,_,⟨κ,0,R,Jj3,(by decide),(by simp),u⟩,(KM R)⟩ ?_
 rintro k _ C ⟨f,b,rfl,d,t,z,h⟩
 rcases k with _ | k
 have e:=h;obtain⟨x,h⟩:=cn (eg (gs ()):Bool⊕((Unit)⊕(Unit)))
 have c:decide (b<(p0.length:Int))=false:=Jo2 (by omega)
 refine Jq<|Jg3 [2,2,2,2] 2 R<|Jn3 R U37 R R<|Jb 1 R<|Jw2 R c<|Jc1<|Jt<|Jt ?_
 cases h
 have h:=e
 refine Jb1 ?_
 cases h
 exact Jw1 _ ⟨f,R,d.wk R,R⟩ KN
 obtain⟨x,h,e⟩:=BI h;unfold gN at h
 have c:decide (b<(p0.length:Int))=true:=Jn2 (by omega)
 refine Jq<|Jg3 [2,2,2,2] 2 R<|Jn3 R U37 R R<|Jb 1 R<|Jv2 R c<|Js<|Jp<|Jq<|Jv<|Jg3 [2,2,2,1,2,2] 2 R<|Ob h λy m h=>Jc3 R g m U37 Z2<|Jb3 R I2 ((g.stp d).gInt m)<|Jb 2 R ?_
 revert h
 cases A:(y==p1)
 refine JF λh=>Jy R<|Js<|Jz<|Jp<|Jf3 R ?_
 have v:cb .i64 (b+1)=b+1:=wr1 t (Jm2 c) s
 rw[v]
 have c:=Jm2 c
 cases h
 exact Jz1 λa ha=>⟨k,_,Ja3 _,⟨f,b+1,R,d.wk R,by omega,by omega,e⟩,(ha.mm R)⟩
 refine JT λh=>Jx R<|Je3 R<|Ju<|Ja1<|Jw<|Jw ?_
 cases h
 obtain rfl:=Option.some.inj e
 have h:=yL j
 refine Ja1<|Jq2<|Jw<|Ja2 (l:=[.tmp 4]) V81 (Jp2 R R) R ?_
 cases h
 exact⟨f,R,(hE.stp d)⟩
 rintro _ B ⟨p,rfl,q,rfl⟩
 have h:=yI j
 refine Jp<|Je3 R<|Ju<|Ja2 (l:=[.tmp 4]) V81 (Jp2 R R) R ?_
 cases h
 exact⟨p,R,(hE.stp q)⟩
theorem lP {p0:Int}{p1:Int}  {r:Int}(h:jN p0 p1=some r):Ret Tryz.prog 247 [vi p0,vi p1] w (Pvi κ w r):=by
 unfold jN at h
 refine Jk3 κ F247 R N247 R λhE=>Je3 R<|Jq<|Je3 R ?_
 revert h
 cases a:decide (p1<p0)
 refine JF λh=>Jy R<|Js<|Jp<|Je3 R<|Ju<|Ja2 (l:=[.tmp 4]) V247 (Jp2 R R) R ?_
 cases h
 exact⟨κ,R,hE⟩
 refine JT λh=>Jx R<|Je3 R<|Ju<|Jw<|Ja2 (l:=[.tmp 4]) V247 (Jp2 R R) R ?_
 cases h
 exact⟨κ,R,hE⟩
theorem dF {b c}{p0:(List Int)}(k:Rd (Rp.int .i64) κ w 0 b c p0){r:(List Int)}(h:dA p0=some r):Ret Tryz.prog 131 [.slice b p0.length c] w (Pvs E6 2 κ w r):=by
 unfold dA at h
 refine Jk3 κ F131 R N131 R λhE=>Je3 R<|Je [1,2,1,2] R<|Jx3 (κ:=κ) (E:=E6) 2 R Y37 a8 R λo p w1 d a i=>Tv<|Jn 1 R<|Ob h λs m h=>Jy3 (κ:=d) (E:=E6) 2 [] R Y37 a8 R i (Sl.srcP (co _)<|k.stp a) bZ m R λg n q e f j=>Tv<|Jb 1 R<|Ju<|Ja2 (l:=[.tmp 2]) V131 (Jp2 R R) R ?_
 cases h
 exact⟨e,g,n,R,(hE.stp<|a.tr f),j⟩
theorem mw {i o}{p0:(List Int)}{p1:Int}(g:Rd (Rp.int .i64) κ w 0 i o p0){r:Bool}(h:kl p0 p1=some r):Ret Tryz.prog 197 [.slice i p0.length o,vi p1] w (Pvb κ w r):=by
 unfold kl at h
 refine Jk3 κ F197 R N197 R λhE=>Je3 R<|Jq<|Je3 R ?_
 have s:(p0.length:Int)<=9223372036854775807:=g.len_le
 refine Ob h λn u j=>?_
 clear h
 refine Jx1 (λL w'=>∃κ',L=[]/\Stp [] κ w κ' w'/\n=eg ()) ?_ ?_
 refine Jv<|Jp3 [0,1] (λk E L w'=>∃κ' b,L=(5,vi b)::E/\Stp [] κ w κ' w'/\0<=b/\n6 ((p0.length:Int)-b)=k/\cntM (jx p0 p1) k b ()=some n) ⟨_,_,⟨κ,0,R,Jj3,(by decide),(by simp),u⟩,(KM R)⟩ ?_
 rintro k _ C ⟨f,b,rfl,d,t,z,h⟩
 rcases k with _ | k
 have e:=h;obtain⟨x,h⟩:=cn (eg (gs ()):Bool⊕((Unit)⊕(Unit)))
 have c:decide (b<(p0.length:Int))=false:=Jo2 (by omega)
 refine Jq<|Jg3 [2,2,2,2] 2 R<|Jn3 R U37 R R<|Jb 1 R<|Jw2 R c<|Jc1<|Jt<|Jt ?_
 cases h
 have h:=e
 refine Jb1 ?_
 cases h
 exact Jw1 _ ⟨f,R,d.wk R,R⟩ KN
 obtain⟨x,h,e⟩:=BI h;unfold jx at h
 have c:decide (b<(p0.length:Int))=true:=Jn2 (by omega)
 refine Jq<|Jg3 [2,2,2,2] 2 R<|Jn3 R U37 R R<|Jb 1 R<|Jv2 R c<|Js<|Jp<|Jq<|Jv<|Jg3 [2,2,2,1,2,2] 2 R<|Ob h λy m h=>Jc3 R g m U37 Z2<|Jb3 R I2 ((g.stp d).gInt m)<|Jb 2 R ?_
 revert h
 cases A:(y==p1)
 refine JF λh=>Jy R<|Js<|Jz<|Jp<|Jf3 R ?_
 have v:cb .i64 (b+1)=b+1:=wr1 t (Jm2 c) s
 rw[v]
 have c:=Jm2 c
 cases h
 exact Jz1 λa ha=>⟨k,_,Ja3 _,⟨f,b+1,R,d.wk R,by omega,by omega,e⟩,(ha.mm R)⟩
 refine JT λh=>Jx R<|Je3 R<|Ju<|Ja1<|Jw<|Jw ?_
 cases h
 obtain rfl:=Option.some.inj e
 have h:=yL j
 refine Ja1<|Jq2<|Jw<|Ja2 (l:=[.tmp 4]) V197 (Jp2 R R) R ?_
 cases h
 exact⟨f,R,(hE.stp d)⟩
 rintro _ B ⟨p,rfl,q,rfl⟩
 have h:=yI j
 refine Jp<|Je3 R<|Ju<|Ja2 (l:=[.tmp 4]) V197 (Jp2 R R) R ?_
 cases h
 exact⟨p,R,(hE.stp q)⟩
theorem p6 {K W}{p0:(List Int)}(i:Rd (Rp.int .i64) κ w 0 K W p0){r:(List Int)}(h:jy p0=some r):Ret Tryz.prog 136 [.slice K p0.length W] w (Pvs E6 2 κ w r):=by
 unfold jy at h
 refine Jk3 κ F136 R N136 R λhE=>Je3 R<|Je [1,2] R<|Jx3 (κ:=κ) (E:=E6) 2 R Y37 a8 R λah aF w1 v y al=>Tv<|Jb 1 R<|Jq<|Je3 R ?_
 have aw:(p0.length:Int)<=9223372036854775807:=i.len_le
 refine Ob h λU az av=>?_
 clear h
 refine Jx1 (λL w'=>∃κ',∃u:(List Int),∃q t,L=[(3,.slice q u.length t)]/\Stp [3] v w1 κ' w'/\Oc E6 2 κ' w' 2 q t u/\U=eg u) ?_ ?_
 refine Jv<|Jp3 [0] (λk E L w'=>∃κ' c,∃d:(List Int),∃s p,L=(3,.slice s d.length p)::(4,vi c)::E/\Stp [3] v w1 κ' w'/\Oc E6 2 κ' w' 2 s p d/\0<=c/\n6 ((p0.length:Int)-c)=k/\cntM (fK p0) k c d=some U) ⟨_,_,⟨v,0,(([]:List Int):(List Int)),ah,aF,R,Jj3,al,(by decide),(by simp),az⟩,(KM R)⟩ ?_
 rintro k _ X ⟨j,c,d,s,p,rfl,m,g,ax,aR,h⟩
 rcases k with _ | k
 have D:=h;obtain⟨aE,h⟩:=cn (eg (gs d):(List Int)⊕(((List Int))⊕((List Int))))
 have e:decide (c<(p0.length:Int))=false:=Jo2 (by omega)
 refine Jq<|Jg3 [2,2,2,2] 2 R<|Jn3 R U37 R R<|Jb 1 R<|Jw2 R e<|Jc1<|Jt<|Jt ?_
 cases h
 have h:=D
 refine Jb1 ?_
 cases h
 exact Jw1 _ ⟨j,d,s,p,R,m.wk R,g,R⟩<|KM R
 obtain⟨aE,h,D⟩:=BI h;unfold fK at h
 have e:decide (c<(p0.length:Int))=true:=Jn2 (by omega)
 refine Jq<|Jg3 [2,2,2,2] 2 R<|Jn3 R U37 R R<|Jb 1 R<|Jv2 R e<|Js<|Jp<|Jq<|Jv<|Jg3 [2,2,2] 1 R<|Jn3 R U37 R R<|Jb 1 R<|Jq<|Ob h λV ay ar=>?_
 clear h
 refine Jo3 [0,3,4] (λE L w'=>∃κ' F,L=(5,vi F)::E/\Stp [] j X κ' w'/\V=eg F) ?_ ?_
 refine Jv<|Jp3 [0,3,4] (λk E L w'=>∃κ' f,L=(5,vi f)::E/\Stp [] j X κ' w'/\bU (fL p0 c d) k f=some V) ⟨_,_,⟨j,((d.length:Int):Int),R,Jj3,ay⟩,(KM R)⟩ ?_
 rintro k _ aW ⟨G,f,rfl,n,h⟩
 rcases k with _ | k
 cases h
 obtain⟨aU,h,M⟩:=BI h;unfold fL at h
 refine Jq<|Jq<|Js1 (κ:=G) [0,2] none [(0,2),(1,2),(2,2),(3,2),(4,2),(5,2),(6,2),(8,2),(9,2),(10,2),(7,0),(11,0),(12,2),(13,2)] [] (by kernel_rfl) (by kernel_rfl) λaG o=>Jn 3 R<|Ob h λT h au=>Jf4 [0,3,4,5] 29 T G aG [(3,2),(4,2),(5,2),(6,2),(8,2),(9,2),(10,2),(7,0),(11,0),(12,2),(13,2)] [] (Cl.refl _ _ _) ?_ ?_
 revert h
 cases aS:decide (0<f)
 refine JF λh=>Jn 7 R<|Ja4 R<|Ja4 R<|Jn 2 R ?_
 cases h
 exact Jv1 _ (Cl.refl _ _ _) ⟨R,_,Jj3⟩<|KM R
 refine JT λh=>Jn 3 R<|Ob h λa4 N h=>Jc3 R g.rdc N U37 Z2<|Jn 2 R<|Ob h λa5 O h=>Jc3 R i O U37 Z2<|Jg R (Jc2 I2 R R<|hvC ((g.stp<|n.tr o).rdc.gInt N) R)<|Jg R (Jc2 I2 R R<|hvC ((i.stp<|T4 y m n o).gInt O) R)<|Jn 2 R ?_
 cases h
 exact Jv1 _ (Cl.refl _ _ _) ⟨R,_,Jj3⟩<|KM R
 rintro _ aX _ ⟨rfl,H,I⟩
 have h:=au
 refine Jt1<|Jd ?_
 revert h
 cases aT:T
 refine JF λh=>Jy R<|Jc1<|Jt<|Jt ?_
 cases h
 have h:=M
 refine Jb1 ?_
 cases h
 exact Jw1 _ ⟨H,f,R,(T3 n o I).wk R,R⟩<|KM R
 refine JT λh=>Jx R<|Js<|Jp<|Jv<|Jf3 R<|Jz ?_
 cases h
 exact Jz1 λa ha=>⟨k,_,Ja3 _,⟨H,((IntKind.i64.wrap<|f-1):Int),R,(T3 n o I).wk R,M⟩,(ha.mm R)⟩
 rintro _ aV ⟨Y,F,rfl,x,rfl⟩
 have h:=yI ar
 refine Jp<|Je [1,2,2,2,1,2] R<|Jx3 (κ:=Y) (E:=E6) 3 R Y37 a8 R λaK aQ aY Z z am=>Tv<|Jn 2 R<|Ob h λa6 P h=>Jf R (nW (k1:= .i64) (k2:= .i64) U37 Z2 (.inl ⟨R,R⟩) (.inr ⟨_,R,R⟩) P g.rdc.1 R R R) ?_
 have C:=g.stp (x.tr z)
 refine Ob h λa7 aB h=>Jy3 (κ:=Z) (E:=E6) 3 [] R Y37 a8 R am (Sl.srcP (co _)<|C.rdc.sub P) bZ aB R λaP aM aZ aa A an=>Tv<|Jb 1 R<|Jg3 [2,2,2,2,1,1,1,2] 3 R<|Ob h λaH Q h=>Jc3 R i Q U37 Z2<|Jb3 R I2 ((i.stp<|T5 y m x z A).gInt Q)<|Jd4 (κ:=aa) 4 [aH] R Y37 a8 R λaJ aO a0 ab B ao=>Tv<|Ob h λa9 aC h=>Jy3 (κ:=ab) (E:=E6) 3 [] R Y37 a8 R (an.stp B) (Sl.srcP (co _) ao.rdc) bZ aC R λaL aN a1 ac J ap=>Tv<|Jb 1 R<|Jh3 [2,2,2,2,1,2] 3 R<|Ob h λba S h=>Jf R (nW (k1:= .i64) (k2:= .i64) U37 Z2 (.inr ⟨_,R,R⟩) (.inl ⟨R,R⟩) S C.rdc.1 R R R)<|Ob h λaI aD h=>Jy3 (κ:=ac) (E:=E6) 3 [] R Y37 a8 R ap (Sl.srcP (co _) ((C.stp<|T3 A B J).rdc.sub S)) bZ aD R λaj ai a2 ad ag aq=>Tv<|Jc 1 R<|Jz<|Jp<|Jf3 R ?_
 have aA:cb .i64 (c+1)=c+1:=wr1 ax (Jm2 e) aw
 rw[aA]
 have e:=Jm2 e
 cases h
 exact Jz1 λa ha=>⟨k,_,Ja3 _,⟨(λb=>ren [(3,2)]<|ad b),c+1,aI,aj,ai,R,(Jy2 ((T7 m x z A B J ag).wk R) [(3,2)] R),(aq.map (ren [(3,2)]) R R),by omega,by omega,D⟩,(ha.mm R)⟩
 rintro _ a3 ⟨ae,u,q,t,rfl,af,ak,rfl⟩
 have h:=yI av
 refine Jp<|Je3 R<|Ju<|Ja2 (l:=[.tmp 2]) V136 (Jp2 R R) R ?_
 cases h
 exact⟨ae,q,t,R,(hE.stp<|y.tr af),ak⟩
theorem oK {p0:Int}  {r:(List Int)}(h:mC p0=some r):Ret Tryz.prog 140 [vi p0] w (Pvs E6 2 κ w r):=by
 unfold mC at h
 refine Jk3 κ F140 R N140 R λhE=>Je3 R<|Je [1,2] R<|Jx3 (κ:=κ) (E:=E6) 2 R Y37 a8 R λB T w1 m A I=>Tv<|Jb 1 R<|Jq<|Je3 R<|Ob h λ_ O h=>?_
 have K:=kN O
 refine Ob h λt N J=>?_
 clear h
 refine Jx1 (λL w'=>∃κ',∃j:(List Int),∃f i,L=[(3,.slice f j.length i)]/\Stp [2] m w1 κ' w'/\Oc E6 2 κ' w' 2 f i j/\t=eg j) ?_ ?_
 refine Jv<|Jp3 [0] (λk E L w'=>∃κ' b,∃d:(List Int),∃g e,L=(3,.slice g d.length e)::(4,vi b)::E/\Stp [2] m w1 κ' w'/\Oc E6 2 κ' w' 2 g e d/\0<=b/\n6 (p0-b)=k/\cntM jH k b d=some t) ⟨_,_,⟨m,0,(([]:List Int):(List Int)),B,T,R,Jj3,I,(by decide),(by simp),N⟩,(KM R)⟩ ?_
 rintro k _ Y ⟨o,b,d,g,e,rfl,p,s,M,X,h⟩
 rcases k with _ | k
 have n:=h;obtain⟨S,h⟩:=cn (eg (gs d):(List Int)⊕(((List Int))⊕((List Int))))
 have c:decide (b<p0)=false:=Jo2 (by omega)
 refine Jq<|Je3 R<|Jw2 R c<|Jc1<|Jt<|Jt ?_
 cases h
 have h:=n
 refine Jb1 ?_
 cases h
 exact Jw1 _ ⟨o,d,g,e,R,p.wk R,s,R⟩<|KM R
 obtain⟨S,h,n⟩:=BI h;unfold jH at h
 have c:decide (b<p0)=true:=Jn2 (by omega)
 refine Jq<|Je3 R<|Jv2 R c<|Js<|Jp<|Jq<|Jv<|Jh3 [2,1,1,2] 1 R<|Jd4 (κ:=o) 3 [(-1)] R Y37 a8 R λV W Z u q G=>Tv<|Ob h λU Q h=>Jy3 (κ:=u) (E:=E6) 2 [] R Y37 a8 R (s.stp q) (Sl.srcP (co _) G.rdc) bZ Q R λD C aa v z H=>Tv<|Jc 1 R<|Jz<|Jp<|Jf3 R ?_
 have P:cb .i64 (b+1)=b+1:=wr1 M (Jm2 c) K
 rw[P]
 have c:=Jm2 c
 cases h
 exact Jz1 λa ha=>⟨k,_,Ja3 _,⟨v,b+1,U,D,C,R,(T3 p q z).wk R,H,by omega,by omega,n⟩,(ha.mm R)⟩
 rintro _ ab ⟨x,j,f,i,rfl,y,F,rfl⟩
 have h:=yI J
 refine Jp<|Je3 R<|Ju<|Ja2 (l:=[.tmp 2]) V140 (Jp2 R R) R ?_
 cases h
 exact⟨x,f,i,R,(hE.stp<|A.tr y),F⟩
theorem oI {f m k c n d i j g e}{p0:l7Game}{p1:Int}{p2:Int}(B:Rd (Rp.int .i64) κ w 0 f m p0.owner) (C:Rd (Rp.int .i64) κ w 0 k c p0.prio) (D:Rd (Rp.sl (Rp.int .i64)) κ w 0 n d p0.next) (E:Rd (Rp.sl (Rp.int .i64)) κ w 0 i j p0.prev) (p:Rd (Rp.int .i64) κ w 0 g e p0.pick){r:Bool}(h:lw p0 p1 p2=some r):Ret Tryz.prog 269 [.agg #[.slice f p0.owner.length m,.slice k p0.prio.length c,.slice n p0.next.length d,.slice i p0.prev.length j,.slice g p0.pick.length e],vi p1,vi p2] w (Pvb κ w r):=by
 unfold lw at h
 refine Jk3 κ F269 R N269 R λhE=>Je [1,2] R<|Js3 (κ:=κ) 2 R λA w1 t b o=>Tv<|Jb 1 R<|Je [2,1,2,2,1,2,2,2,1,2,2,1,2,2,2,2] R<|Jd3 R U210 R Z37<|Jb3 R I37 (o.ld 4 R R)<|Jn 1 R<|Ob h λz q h=>Jc3 R p q U37 Z2 ?_
 have a:=p.stp b
 refine Jb3 R I2 (a.gInt q)<|Jn 2 R<|Ob h λy h x=>Jf4 [6] 21 y t w1 [(7,2),(8,1),(9,2),(10,2),(11,1),(12,2),(13,2),(14,2)] [(15,2)] tv ?_ ?_
 revert h
 cases F:decide (z<0)
 refine JF λh=>Jd3 R U210 R Z37<|Jb3 R I37 (o.ld 4 R R)<|Jn 1 R<|Ob h λH s h=>Jc3 R a s U37 Z2<|Jb3 R I2 (a.gInt s)<|Jn 3 R ?_
 cases h
 exact Jg4 tv R
 refine JT λh=>Jn 1 R<|Jz3 R<|Jn 2 R<|Jz3 R<|Jn 3 R ?_
 cases h
 exact Jg4 tv R
 rintro _ G _ ⟨rfl,u,v⟩
 have h:=x
 refine Jb 1 R<|Ju<|Ja2 (l:=[.tmp 6]) V269 (Jp2 R R) R ?_
 cases h
 exact⟨u,R,(hE.stp<|b.tr v)⟩
theorem oJ {v D}{p0:(List Bool)}{a1 F}{p1:(List Bool)}(o:Rd Rp.bool κ w 0 v D p0) (x:Rd Rp.bool κ w 0 a1 F p1){r:(List Bool)}(h:lA p0 p1=some r):Ret Tryz.prog 271 [.slice v p0.length D,.slice a1 p1.length F] w (Pvs Ep.bool 4 κ w r):=by
 unfold lA at h
 refine Jk3 κ F271 R N271 R λhE=>Je3 R<|Jg3 [2,2,1,2] 1 R<|Jn3 R U178 R R<|Ob h λg aa h=>Jl1 (κ:=κ) (E:=Ep.bool) (z:=(false:Bool)) 2 R R R R R R R Y178 dI R R R R R (λ_ _ _=>R) (Ju2 aa) λm s w1 i j P=>Tv<|Jb 1 R<|Jq<|Je3 R ?_
 have T:(p0.length:Int)<=9223372036854775807:=o.len_le
 refine Ob h λC X S=>?_
 clear h
 refine Jo3 [5] (λE L w'=>∃κ',∃f:(List Bool),L=E/\Stp [2] i w1 κ' w'/\Oc Ep.bool 4 κ' w' 2 m s f/\g.length=f.length/\C=eg f) ?_ ?_
 refine Jv<|Jp3 [0,1,5] (λk E L w'=>∃κ' b,∃d:(List Bool),L=(6,vi b)::E/\Stp [2] i w1 κ' w'/\Oc Ep.bool 4 κ' w' 2 m s d/\g.length=d.length/\0<=b/\n6 ((p0.length:Int)-b)=k/\cntM (jG p0 p1) k b d=some C) ⟨_,_,⟨i,0,g,R,Jj3,P,R,(by decide),(by simp),X⟩,(KM R)⟩ ?_
 rintro k _ ad ⟨t,b,d,rfl,e,n,q,U,af,h⟩
 rcases k with _ | k
 have p:=h;obtain⟨ab,h⟩:=cn (eg (gs d):(List Bool)⊕(((List Bool))⊕((List Bool))))
 have c:decide (b<(p0.length:Int))=false:=Jo2 (by omega)
 refine Jq<|Jg3 [2,2,2,2] 2 R<|Jn3 R U178 R R<|Jb 1 R<|Jw2 R c<|Jc1<|Jt<|Jt ?_
 cases h
 have h:=p
 refine Jb1 ?_
 cases h
 exact Jw1 _ ⟨t,d,R,e.wk R,n,q,R⟩<|KM R
 obtain⟨ab,h,p⟩:=BI h;unfold jG at h
 have c:decide (b<(p0.length:Int))=true:=Jn2 (by omega)
 refine Jq<|Jg3 [2,2,2,2] 2 R<|Jn3 R U178 R R<|Jb 1 R<|Jv2 R c<|Js<|Jp<|Jq<|Jv<|Jh3 [2,2,2,2,2,1,2,2,2,2,1,2,2,2,1] 4 R<|Ob h λae y h=>Jc3 R o y U178 Z4<|Jb3 R I4 ((o.stp<|j.tr e).gBool y)<|Jn 1 R<|Ob h λac h Q=>Jf4 [0,1,5,6,16,17] 28 ac t ad [(7,2),(8,2),(9,2),(10,1),(11,2),(12,2)] [(13,2),(14,1)] tv ?_ ?_
 revert h
 cases ag:ae
 refine JF λh=>Jn 3 R<|Jz3 R<|Jn 2 R ?_
 cases h
 exact Jg4 tv R
 refine JT λh=>Jn 2 R<|Ob h λak A h=>Jc3 R x A U178 Z4<|Jb3 R I4 ((x.stp<|j.tr e).gBool A)<|Jn 2 R ?_
 cases h
 exact Jg4 tv R
 rintro _ ah _ ⟨rfl,H,u⟩
 have h:=Q
 refine Ob h λal Z h=>Jf R (Jf2 n.rdc Z U178 Z4 R R q R)<|Ob h λG B h=>Jk1 (κ:=H) (E:=Ep.bool) 2 [] R R R R R R R R Z4 R R R R (n.stp u) B λai I M O=>Tv<|?_
 have W:g.length=G.length:=q.trans (Jt2 B).2.2.2.symm
 refine Jo<|Jz<|Jp<|Jf3 R ?_
 have Y:cb .i64 (b+1)=b+1:=wr1 U (Jm2 c) T
 rw[Y]
 have c:=Jm2 c
 cases h
 exact Jz1 λa ha=>⟨k,_,Ja3 _,⟨I,b+1,G,R,(T3 e u M).wk R,O,W,by omega,by omega,p⟩,(ha.mm R)⟩
 rintro _ aj ⟨J,f,rfl,K,N,V,rfl⟩
 have h:=yI S
 refine Jp<|Je3 R<|Ju<|Ja2 (l:=[.tmp 4]) V271 (Jp2 R R) R ?_
 cases h
 exact⟨J,m,s,(by simp only[V]),(hE.stp<|j.tr K),N⟩
theorem kI {j s}{p0:(List Int)}{a1 t}{p1:(List Int)}(i:Rd (Rp.int .i64) κ w 0 j s p0) (m:Rd (Rp.int .i64) κ w 0 a1 t p1){r:Bool}(h:gF p0 p1=some r):Ret Tryz.prog 144 [.slice j p0.length s,.slice a1 p1.length t] w (Pvb κ w r):=by
 unfold gF at h
 refine Jk3 κ F144 R N144 R λhE=>Je3 R<|Jq<|Jg3 [2,2,2,2,2] 1 R<|Jn3 R U37 R R<|Jn 1 R<|Jn3 R U37 R R<|Jb 1 R ?_
 revert h
 cases G:((p0.length:Int) !=(p1.length:Int))
 refine JF λh=>Jy R<|Js<|Jp<|Jq<|Je3 R ?_
 have x:(p0.length:Int)<=9223372036854775807:=i.len_le
 refine Ob h λq z n=>?_
 clear h
 refine Jx1 (λL w'=>∃κ',L=[]/\Stp [] κ w κ' w'/\q=eg ()) ?_ ?_
 refine Jv<|Jp3 [0,1] (λk E L w'=>∃κ' b,L=(5,vi b)::E/\Stp [] κ w κ' w'/\0<=b/\n6 ((p0.length:Int)-b)=k/\cntM (fR p0 p1) k b ()=some q) ⟨_,_,⟨κ,0,R,Jj3,(by decide),(by simp),z⟩,(KM R)⟩ ?_
 rintro k _ K ⟨e,b,rfl,d,y,F,h⟩
 rcases k with _ | k
 have g:=h;obtain⟨B,h⟩:=cn (eg (gs ()):Bool⊕((Unit)⊕(Unit)))
 have c:decide (b<(p0.length:Int))=false:=Jo2 (by omega)
 refine Jq<|Jg3 [2,2,2,2] 2 R<|Jn3 R U37 R R<|Jb 1 R<|Jw2 R c<|Jc1<|Jt<|Jt ?_
 cases h
 have h:=g
 refine Jb1 ?_
 cases h
 exact Jw1 _ ⟨e,R,d.wk R,R⟩ KN
 obtain⟨B,h,g⟩:=BI h;unfold fR at h
 have c:decide (b<(p0.length:Int))=true:=Jn2 (by omega)
 refine Jq<|Jg3 [2,2,2,2] 2 R<|Jn3 R U37 R R<|Jb 1 R<|Jv2 R c<|Js<|Jp<|Jq<|Jv<|Jq<|Js1 (κ:=e) [0] none [(0,2),(1,2),(2,2),(4,2),(5,2),(6,2),(3,0),(7,0),(8,2)] [] (by kernel_rfl) (by kernel_rfl) λI f=>Jn 2 R<|Ob h λC o h=>Jc3 R i o U37 Z2<|Jn 2 R<|Ob h λD p h=>Jc3 R m p U37 Z2<|Jg R (Jc2 I2 R R<|hvC ((i.stp<|d.tr f).gInt o) R)<|Jg R (Jc2 I2 R R<|hvC ((m.stp<|d.tr f).gInt p) R)<|Jn 1 R<|Jt1<|Jd ?_
 revert h
 cases H:(C !=D)
 refine JF λh=>Jy R<|Js<|Jz<|Jp<|Jf3 R ?_
 have A:cb .i64 (b+1)=b+1:=wr1 y (Jm2 c) x
 rw[A]
 have c:=Jm2 c
 cases h
 exact Jz1 λa ha=>⟨k,_,Ja3 _,⟨e,b+1,R,(d.tr f).wk R,by omega,by omega,g⟩,(ha.mm R)⟩
 refine JT λh=>Jx R<|Je3 R<|Ju<|Ja1<|Jw<|Jw ?_
 cases h
 obtain rfl:=Option.some.inj g
 have h:=yL n
 refine Ja1<|Jq2<|Jw<|Ja2 (l:=[.tmp 4]) V144 (Jp2 R R) R ?_
 cases h
 exact⟨e,R,(hE.stp<|d.tr f)⟩
 rintro _ J ⟨u,rfl,v,rfl⟩
 have h:=yI n
 refine Jp<|Je3 R<|Ju<|Ja2 (l:=[.tmp 4]) V144 (Jp2 R R) R ?_
 cases h
 exact⟨u,R,(hE.stp v)⟩
 refine JT λh=>Jx R<|Je3 R<|Ju<|Jw<|Ja2 (l:=[.tmp 4]) V144 (Jp2 R R) R ?_
 cases h
 exact⟨κ,R,hE⟩
theorem uB {o p n q s m}{p0:Parity}{a1 G}{p1:(List Place)}{p2:Int}{e:Int}(ab:Rd (Rp.int .i64) κ w 0 o p p0.Arena.Owner) (v:Rd (Rp.sl (Rp.int .i64)) κ w 0 n q p0.Arena.Next) (ac:Rd (Rp.int .i64) κ w 0 s m p0.Prio) (x:Rd Place.rp κ w 0 a1 G p1){r:Int}(h:n8 p0 p1 p2 e=some r):Ret Tryz.prog 141 [.agg #[.slice o p0.Arena.Owner.length p,.slice n p0.Arena.Next.length q,.slice s p0.Prio.length m],.slice a1 p1.length G,vi p2,vi e] w (Pvi κ w r):=by
 unfold n8 at h
 refine Jk3 κ F141 R N141 R λhE=>Je [1,2] R<|Js3 (κ:=κ) 2 R λX w1 g d J=>Tv<|Jb 1 R<|Jq<|Je3 R<|Ob h λD O y=>?_
 clear h
 refine Jx1 (λL w'=>∃κ' F,L=[]/\Stp [] g w1 κ' w'/\D=eg F) ?_ ?_
 refine Jv<|Jp3 [1,2,3,4] (λk E L w'=>∃κ' c,L=(9,vi c)::E/\Stp [] g w1 κ' w'/\bU (kp p0 p1 p2 e) k c=some D) ⟨_,_,⟨g,(0:Int),R,Jj3,O⟩,(KM R)⟩ ?_
 rintro k _ aj ⟨f,c,rfl,b,h⟩
 rcases k with _ | k
 cases h
 obtain⟨af,h,j⟩:=BI h;unfold kp at h
 refine Jq<|Jg3 [2,2,2,1,2,2,1,2,2] 1 R<|Jd3 R U79 R Z75<|Jd3 R U75 R Z31 ?_
 have t:=J.stp b
 refine Jb3 R I31 (t.ld 1 R R)<|Jn 1 R<|Ob h λS z h=>Jc3 R v z U31 Z37 ?_
 have i:=v.stp (d.tr b)
 obtain⟨V,ah,Z,K⟩:=i.gSl z
 refine Jb3 R I37 K<|Jn3 R U37 R R<|Jb 1 R ?_
 revert h
 cases ad:decide (c<(S.length:Int))
 refine JF λh=>Jy R<|Jc1<|Jt<|Jt ?_
 cases h
 have h:=j
 refine Jb1 ?_
 cases h
 exact Jw1 _ ⟨f,c,R,b.wk R,R⟩ KN
 refine JT λh=>Jx R<|Js<|Jp<|Jq<|Jv<|Je [2,2,1,2,2,1,2,2,1,2] R<|Jd3 R U79 R Z75<|Jd3 R U75 R Z31<|Jb3 R I31 (t.ld 1 R R)<|Jn 1 R<|Ob h λal A h=>Jc3 R i A U31 Z37 ?_
 obtain⟨W,ai,u,M⟩:=i.gSl A
 refine Jb3 R I37 M<|Jn 1 R<|Ob h λam B h=>Jc3 R u B U37 Z2<|Jb3 R I2 (u.gInt B)<|Jb 1 R<|Jg3 [2,2,2,2,1,2,2] 2 R<|Ob h λT C h=>Jc3 R x C U80 Z88<|Jd3 R U88 R Z2 ?_
 obtain⟨Y,P,N⟩:=((x.stp (d.tr b))).gSt C
 obtain⟨U,ag,rfl,aa⟩:=Place.un P
 refine Jb3 R I2 (λw' Q=>N w' Q 0 _ R)<|Jb 2 R ?_
 revert h
 cases ae:(T.At==e)
 refine JF λh=>Jy R<|Js<|Jz<|Jp<|Jf3 R ?_
 cases h
 exact Jz1 λa ha=>⟨k,_,Ja3 _,⟨f,((IntKind.i64.wrap<|c+1):Int),R,b.wk R,j⟩,(ha.mm R)⟩
 refine JT λh=>Jx R<|Je3 R<|Ju<|Ja1<|Jw<|Jw ?_
 cases h
 obtain rfl:=Option.some.inj j
 have h:=yL y
 refine Ja1<|Jq2<|Jw<|Ja2 (l:=[.tmp 8]) V141 (Jp2 R R) R ?_
 cases h
 exact⟨f,R,(hE.stp<|d.tr b)⟩
 rintro _ ak ⟨H,F,rfl,I,rfl⟩
 have h:=yI y
 refine Jp<|Je3 R<|Ju<|Ja2 (l:=[.tmp 8]) V141 (Jp2 R R) R ?_
 cases h
 exact⟨H,R,(hE.stp<|d.tr I)⟩
theorem tx {aa aA}{p0:(List (List Int))}{a1 aB}{p1:(List Bool)}{p2:Int}(x:Rd (Rp.sl (Rp.int .i64)) κ w 0 aa aA p0) (ag:Rd Rp.bool κ w 0 a1 aB p1){r:(List Int)}(h:lr p0 p1 p2=some r):Ret Tryz.prog 209 [.slice aa p0.length aA,.slice a1 p1.length aB,vi p2] w (Pvs E6 2 κ w r):=by
 unfold lr at h
 refine Jk3 κ F209 R N209 R λhE=>Je3 R<|Je [1,2] R<|Jx3 (κ:=κ) (E:=E6) 2 R Y37 a8 R λaX aW w1 M Q a6=>Tv<|Jb 1 R<|Jq<|Je3 R ?_
 have bk:(p0.length:Int)<=9223372036854775807:=x.len_le
 refine Ob h λax bA bd=>?_
 clear h
 refine Jo3 [0,1,2] (λE L w'=>∃κ',∃b:(List Int),∃d e,L=(7,.slice d b.length e)::E/\Stp [2] M w1 κ' w'/\Oc E6 2 κ' w' 2 d e b/\ax=eg b) ?_ ?_
 refine Jv<|Jp3 [0,1,2] (λk E L w'=>∃κ' g,∃t:(List Int),∃I H,L=(7,.slice I t.length H)::(8,vi g)::E/\Stp [2] M w1 κ' w'/\Oc E6 2 κ' w' 2 I H t/\0<=g/\n6 ((p0.length:Int)-g)=k/\cntM jB k g t=some ax) ⟨_,_,⟨M,0,(([]:List Int):(List Int)),aX,aW,R,Jj3,a6,(by decide),(by simp),bA⟩,(KM R)⟩ ?_
 rintro k _ b8 ⟨X,g,t,I,H,rfl,Y,ac,bn,b0,h⟩
 rcases k with _ | k
 have T:=h;obtain⟨bJ,h⟩:=cn (eg (gs t):(List Int)⊕(((List Int))⊕((List Int))))
 have q:decide (g<(p0.length:Int))=false:=Jo2 (by omega)
 refine Jq<|Jg3 [2,2,2,2] 2 R<|Jn3 R U31 R R<|Jb 1 R<|Jw2 R q<|Jc1<|Jt<|Jt ?_
 cases h
 have h:=T
 refine Jb1 ?_
 cases h
 exact Jw1 _ ⟨X,t,I,H,R,Y.wk R,ac,R⟩<|KM R
 obtain⟨bJ,h,T⟩:=BI h;unfold jB at h
 have q:decide (g<(p0.length:Int))=true:=Jn2 (by omega)
 refine Jq<|Jg3 [2,2,2,2] 2 R<|Jn3 R U31 R R<|Jb 1 R<|Jv2 R q<|Js<|Jp<|Jq<|Jv<|Jh3 [2,1,1,2] 1 R<|Jd4 (κ:=X) 3 [(-1)] R Y37 a8 R λbR bS b9 aH Z a2=>Tv<|Ob h λbN bE h=>Jy3 (κ:=aH) (E:=E6) 2 [] R Y37 a8 R (ac.stp Z) (Sl.srcP (co _) a2.rdc) bZ bE R λaY aZ ca aI aR a3=>Tv<|Jc 1 R<|Jz<|Jp<|Jf3 R ?_
 have bD:cb .i64 (g+1)=g+1:=wr1 bn (Jm2 q) bk
 rw[bD]
 have q:=Jm2 q
 cases h
 exact Jz1 λa ha=>⟨k,_,Ja3 _,⟨aI,g+1,bN,aY,aZ,R,(T3 Y Z aR).wk R,a3,by omega,by omega,T⟩,(ha.mm R)⟩
 rintro _ cf ⟨aO,b,d,e,rfl,O,ab,rfl⟩
 have h:=yI bd
 refine Jp<|Jg3 [2,2,2,1] 2 R<|Ob h λci bF h=>Jc3 R ab.rdc bF U37 Z2<|Ob h λaF aq h=>Jk1 (κ:=aO) (E:=E6) 2 [] R R R R R R R R Z2 R R R R ab aq λaC N P a4=>Tv<|?_
 have br:b.length=aF.length:=(Jt2 aq).2.2.2.symm
 refine Jd<|Jq<|Je3 R ?_
 have bi:(p0.length:Int)<=9223372036854775807:=x.len_le
 refine Ob h λay bw bb=>?_
 clear h
 refine Jo3 [7] (λE L w'=>∃κ',∃K:(List Int),L=E/\Stp [2] N aC κ' w'/\Oc E6 2 κ' w' 2 d e K/\b.length=K.length/\ay=eg K) ?_ ?_
 refine Jv<|Jp3 [0,1,7] (λk E L w'=>∃κ' c,∃j:(List Int),L=(9,vi c)::E/\Stp [2] N aC κ' w'/\Oc E6 2 κ' w' 2 d e j/\b.length=j.length/\0<=c/\n6 ((p0.length:Int)-c)=k/\cntM (jC p0 p1) k c j=some ay) ⟨_,_,⟨N,0,aF,R,Jj3,a4,br,(by decide),(by simp),bw⟩,(KM R)⟩ ?_
 rintro k _ aD ⟨A,c,j,rfl,D,ad,ai,bl,bX,h⟩
 rcases k with _ | k
 have U:=h;obtain⟨bH,h⟩:=cn (eg (gs j):(List Int)⊕(((List Int))⊕((List Int))))
 have o:decide (c<(p0.length:Int))=false:=Jo2 (by omega)
 refine Jq<|Jg3 [2,2,2,2] 2 R<|Jn3 R U31 R R<|Jb 1 R<|Jw2 R o<|Jc1<|Jt<|Jt ?_
 cases h
 have h:=U
 refine Jb1 ?_
 cases h
 exact Jw1 _ ⟨A,j,R,D.wk R,ad,ai,R⟩<|KM R
 obtain⟨bH,h,U⟩:=BI h;unfold jC at h
 have o:decide (c<(p0.length:Int))=true:=Jn2 (by omega)
 refine Jq<|Jg3 [2,2,2,2] 2 R<|Jn3 R U31 R R<|Jb 1 R<|Jv2 R o<|Js<|Jp<|Jq<|Jv<|Je3 R ?_
 have bj:(p0.length:Int)<=9223372036854775807:=x.len_le
 refine Ob h λaz bx bc=>?_
 clear h
 refine Jo3 [0,1,7,9] (λE L w'=>∃κ',∃z:(List Int),L=E/\Stp [2] A aD κ' w'/\Oc E6 2 κ' w' 2 d e z/\b.length=z.length/\az=eg z) ?_ ?_
 refine Jv<|Jp3 [0,1,7,9] (λk E L w'=>∃κ' f,∃m:(List Int),L=(10,vi f)::E/\Stp [2] A aD κ' w'/\Oc E6 2 κ' w' 2 d e m/\b.length=m.length/\0<=f/\n6 ((p0.length:Int)-f)=k/\cntM (jE p0 p1 c) k f m=some az) ⟨_,_,⟨A,0,j,R,Jj3,ad,ai,(by decide),(by simp),bx⟩,(KM R)⟩ ?_
 rintro k _ aE ⟨B,f,m,rfl,F,ae,aj,bm,bY,h⟩
 rcases k with _ | k
 have V:=h;obtain⟨bI,h⟩:=cn (eg (gs m):(List Int)⊕(((List Int))⊕((List Int))))
 have p:decide (f<(p0.length:Int))=false:=Jo2 (by omega)
 refine Jq<|Jg3 [2,2,2,2] 2 R<|Jn3 R U31 R R<|Jb 1 R<|Jw2 R p<|Jc1<|Jt<|Jt ?_
 cases h
 have h:=V
 refine Jb1 ?_
 cases h
 exact Jw1 _ ⟨B,m,R,F.wk R,ae,aj,R⟩<|KM R
 obtain⟨bI,h,V⟩:=BI h;unfold jE at h
 have p:decide (f<(p0.length:Int))=true:=Jn2 (by omega)
 refine Jq<|Jg3 [2,2,2,2] 2 R<|Jn3 R U31 R R<|Jb 1 R<|Jv2 R p<|Js<|Jp<|Jq<|Jv<|Je3 R<|Ob h λaw bz be=>?_
 clear h
 refine Jo3 [0,1,7,9,10] (λE L w'=>∃κ',∃y:Int×(List Int),L=E/\Stp [2] B aE κ' w'/\Oc E6 2 κ' w' 2 d e y.2/\b.length=y.2.length/\aw=eg y) ?_ ?_
 refine Jv<|Jp3 [0,1,7,9,10] (λk E L w'=>∃κ',∃i:Int×(List Int),L=(11,vi i.1)::E/\Stp [2] B aE κ' w'/\Oc E6 2 κ' w' 2 d e i.2/\b.length=i.2.length/\bU (dH p0 p1 c f) k i=some aw) ⟨_,_,⟨B,((0:Int),m),R,Jj3,ae,aj,bz⟩,(KM R)⟩ ?_
 rintro k _ bK ⟨aM,i,rfl,G,v,s,h⟩
 rcases k with _ | k
 cases h
 obtain⟨b5,h,ah⟩:=BI h;unfold dH at h
 refine Jq<|Jg3 [2,2,2,2,1,2,2,2,2,2,2,1,2,2,2,2,2,2,1,2] 3 R<|Ob h λbO ak h=>Jc3 R x ak U31 Z37 ?_
 have S:=x.stp (T6 Q O P D F G)
 obtain⟨bT,b6,bW,bo⟩:=S.gSl ak
 refine Jb3 R I37 bo<|Jn3 R U37 R R<|Jn 2 R<|Ob h λau h bf=>Jf4 [0,1,7,9,10,11] 50 au aM bK [(8,2),(9,2),(10,2),(11,1),(12,2),(13,2)] [(14,2),(15,2),(16,2),(17,2),(18,1),(19,2)] tv ?_ ?_
 revert h
 cases b1:decide (i.1<(bO.length:Int))
 refine JF λh=>Jn 3 R<|Jz3 R<|Jn 2 R ?_
 cases h
 exact Jg4 tv R
 refine JT λh=>Jn 2 R<|Ob h λcj al h=>Jf R (Jf2 v.rdc al U37 Z2 R R s R)<|Jb3 R I2 (v.rdc.gInt al)<|Jn 2 R ?_
 cases h
 exact Jg4 tv R
 rintro _ bL _ ⟨rfl,aN,n⟩
 have h:=bf
 refine Jn 1 R<|Ob h λav h bg=>Jf4 [0,1,7,9,10,11] 56 av aN bL [(15,2),(16,2),(17,2),(18,1),(19,2)] [] tv ?_ ?_
 revert h
 cases b2:au
 refine JF λh=>Jn 3 R<|Jz3 R<|Jn 1 R ?_
 cases h
 exact Jg4 tv R
 refine JT λh=>Jn 2 R<|Ob h λck am h=>Jc3 R ag am U178 Z4<|Jb3 R I4 ((ag.stp<|T7 Q O P D F G n).gBool am)<|Jn 1 R ?_
 cases h
 exact Jg4 tv R
 rintro _ bM _ ⟨rfl,C,u⟩
 have h:=bg
 refine Jd ?_
 revert h
 cases b3:av
 refine JF λh=>Jy R<|Jc1<|Jt<|Jt ?_
 cases h
 have h:=ah
 refine Jb1 ?_
 cases h
 exact Jw1 _ ⟨C,(i.1,i.2),R,(T3 G n u).wk R,(v.stp<|n.tr u),s,R⟩<|KM R
 refine JT λh=>Jx R<|Js<|Jp<|Jq<|Jv<|Jg3 [2,2,2,2,1,2,2,1,2,1,2,2] 3 R<|Ob h λcl an h=>Jc3 R S an U31 Z37 ?_
 obtain⟨bV,b7,af,bp⟩:=(S.stp (n.tr u)).gSl an
 refine Jb3 R I37 bp<|Jn 1 R<|Ob h λcm ao h=>Jc3 R af ao U37 Z2<|Jb3 R I2 (af.gInt ao)<|Ob h λbP ap h=>Jf R (Jf2 v.rdc ap U37 Z2 R R s R) ?_
 have J:=v.stp (n.tr u)
 refine Jb3 R I2 (J.rdc.gInt ap)<|Jb 2 R<|Ob h λW h bh=>Jo3 [0,1,7,9,10,11] (λE L w'=>∃κ',L=E/\Stp [2] C bM κ' w'/\Oc E6 2 κ' w' 2 d e W/\b.length=W.length) ?_ ?_
 revert h
 cases b4:(bP==c)
 refine JF λh=>Jy R<|Js ?_
 cases h
 exact Jw1 _ ⟨C,R,Jj3,J,s⟩<|KM R
 refine JT λh=>Jx R<|Jh3 [2,2,2,2,2,1] 4 R<|Ob h λcp bG h=>Jf R (Jf2 J.rdc bG U37 Z2 R R s R)<|Ob h λbQ ar h=>Jk1 (κ:=C) (E:=E6) 2 [] R R R R R R R R Z2 R R R R J ar λch aG aQ a0=>Tv<|?_
 have bq:b.length=bQ.length:=s.trans (Jt2 ar).2.2.2.symm
 refine Jo ?_
 cases h
 exact Jw1 _ ⟨aG,R,aQ.wk R,a0,bq⟩<|KM R
 rintro _ cg ⟨aP,rfl,aV,ba,bv⟩
 have h:=bh
 refine Jz<|Jp<|Jf3 R ?_
 cases h
 exact Jz1 λa ha=>⟨k,_,Ja3 _,⟨aP,(((IntKind.i64.wrap<|i.1+1):Int),W),R,(T4 G n u aV).wk R,ba,bv,ah⟩,(ha.mm R)⟩
 rintro _ ce ⟨aL,y,rfl,aU,a9,bu,rfl⟩
 have h:=yI be
 refine Jz<|Jp<|Jf3 R ?_
 have bC:cb .i64 (f+1)=f+1:=wr1 bm (Jm2 p) bj
 rw[bC]
 have p:=Jm2 p
 cases h
 exact Jz1 λa ha=>⟨k,_,Ja3 _,⟨aL,f+1,y.2,R,(F.tr aU).wk R,a9,bu,by omega,by omega,V⟩,(ha.mm R)⟩
 rintro _ cd ⟨aK,z,rfl,aT,a7,bt,rfl⟩
 have h:=yI bc
 refine Jz<|Jp<|Jf3 R ?_
 have bB:cb .i64 (c+1)=c+1:=wr1 bl (Jm2 o) bi
 rw[bB]
 have o:=Jm2 o
 cases h
 exact Jz1 λa ha=>⟨k,_,Ja3 _,⟨aK,c+1,z,R,(D.tr aT).wk R,a7,bt,by omega,by omega,U⟩,(ha.mm R)⟩
 rintro _ cc ⟨aJ,K,rfl,aS,a5,bs,rfl⟩
 have h:=yI bb
 refine Jp<|Je3 R<|Ju<|Ja2 (l:=[.tmp 6]) V209 (Jp2 R R) R ?_
 cases h
 exact⟨aJ,d,e,(by simp only[bs]),(hE.stp<|T4 Q O P aS),a5⟩
end Go.Proofs.YtleekpaohfpooaaGreat
