/- The walks, part 10. By program. -/
import Derived.Test.YtleekpaohfpooaaGreatFns9FW
set_option linter.unusedVariables false
set_option linter.unusedSimpArgs false
open Go.IntKind renaming wrap → cb
open Sum renaming inr → eg
open Int renaming toNat → n6
namespace Go.Proofs.YtleekpaohfpooaaGreat
open Go Go.Wk Go.Proofs
set_option maxRecDepth 100000
set_option maxHeartbeats 1000000
variable {w:World}{κ:Col}
theorem qk {p0:Sig}{s u q t}{p1:Machine}{a2 K}{p2:(List Clause)}(z:Rd (Rp.sl (Rp.int .i64)) κ w 0 s u p1.Next) (A:Rd (Rp.sl (Rp.int .i64)) κ w 0 q t p1.Out) (an:Rd Clause.rp κ w 0 a2 K p2){r:(Option watch)×Bool}(h:gL p0 p1 p2=some r):Ret Tryz.prog 73 [.agg #[vi p0.In,vi p0.Out],.agg #[.slice s p1.Next.length u,.slice q p1.Out.length t],.slice a2 p2.length K] w (λv w'=>∃(κ':Col) (D:Option Addr) (H:Nat) (E:Option Addr) (I:Nat) (F:Option Addr) (J:Nat) (G:Nat),v= .tuple #[.pointer (bif r.1.isSome then some ⟨G,0,none⟩ else none),.bool r.2]/\Ent κ w κ' w'/\Oc (Ep.own E6 2) 37 κ' w' 2 D H ((r.1.getD (⟨([]:List (List Int)),([]:List (List Int)),([]:List Pair)⟩:watch)).next)/\Oc (Ep.own E6 2) 37 κ' w' 3 E I ((r.1.getD (⟨([]:List (List Int)),([]:List (List Int)),([]:List Pair)⟩:watch)).letters)/\Oc Pair.ep127 127 κ' w' 4 F J ((r.1.getD (⟨([]:List (List Int)),([]:List (List Int)),([]:List Pair)⟩:watch)).pairs)/\(r.1.isSome=true->Bc κ' w' 5 G 172 [.slice D ((r.1.getD (⟨([]:List (List Int)),([]:List (List Int)),([]:List Pair)⟩:watch)).next).length H,.slice E ((r.1.getD (⟨([]:List (List Int)),([]:List (List Int)),([]:List Pair)⟩:watch)).letters).length I,.slice F ((r.1.getD (⟨([]:List (List Int)),([]:List (List Int)),([]:List Pair)⟩:watch)).pairs).length J])):=by
 unfold gL at h
 refine Jk3 κ F73 R N73 R λhE=>Je [1,1,2,2] R<|Js3 (κ:=κ) 2 R λaC w1 M d ae=>Tv<|Js3 (κ:=M) 3 R λaD aS O c y=>Tv<|Jb 2 R<|Jq<|Je [1,1,2,2,1,1,1,2,2] R ?_
 have m:=ae.stp c
 refine Jb4 tv R (Jc4 (haE m.cells) I28 Z28 R)<|Ob h λaw ap h=>Jr3 R C82 (pv (κ:=Mk O) (p0:=p0) ap) ?_
 rintro _ av ⟨aI,rfl,aa⟩
 obtain⟨n,a,aM⟩:=Ji aa 4 R
 refine Tv<|Jn 2 R<|Ob h λC h ao=>Jf4 [2,3,4] 18 C n av [(4,1),(5,1),(6,1),(7,2),(8,2)] [] tv ?_ ?_
 revert h
 cases aF:(!aw)
 refine JF λh=>Jb4 tv R (Jc4 (haE (m.stp a).cells) I28 Z28 R)<|Jb4 tv R (Jc4 (haE (y.stp a).cells) I33 Z33 R)<|Ob h λaV aq h=>Jr3 R C83 (pq (κ:=Mk n) (p0:=p0) (p1:=p1) (Ji3<|z.stp<|T3 d c a) (Ji3<|A.stp<|T3 d c a) aq) ?_
 rintro _ aO ⟨aJ,rfl,ab⟩
 obtain⟨ax,Q,aN⟩:=Ji ab 6 R
 refine Tv<|Jn 2 R ?_
 cases h
 exact Jv1 _ tv ⟨R,_,Q.wk R⟩<|KM R
 refine JT λh=>Jz3 R<|Jz3 R<|Jz3 R<|Jn 2 R ?_
 cases h
 exact Jg4 tv R
 rintro _ aP _ ⟨rfl,o,e⟩
 have h:=ao
 refine Jd ?_
 revert h
 cases aG:C
 refine JF λh=>Jy R<|Js<|Jp<|Je [1,2,1,2,2,2,1,1,2] R ?_
 have x:=m.stp (a.tr e)
 refine Jb4 tv R (Jc4 (haE x.cells) I28 Z28 R)<|Jn 1 R<|Ob h λL ar h=>Jr3 R C41 (po (κ:=Mk o) (p0:=p0) (Ji3<|an.stp<|T4 d c a e) ar) ?_
 rintro _ aQ ⟨aK,aB,aA,az,ay,rfl,ac,af,ag⟩
 obtain⟨N,i,B⟩:=Ji ac 6 R
 refine Tv<|Jn 3 R<|Jt3 (κ:=N) 10 R X71 R λaE aR k f ah=>Tv<|Jh4 (κ:=k) 10 R Z71 R ah R λaT g ai=>Tv<|Jb 1 R<|Jq<|Je3 R ?_
 revert h
 cases aH:(!L.2)
 have p:=(T7 d c a e i f g)
 refine JF λh=>Jy R<|Js<|Jp<|Je [1,1,1,1,2,2,2,2] R<|Jb4 tv R (Jc4 (haE (x.stp<|T3 i f g).cells) I28 Z28 R)<|Jb4 tv R (Jc4 (haE (y.stp<|T5 a e i f g).cells) I33 Z33 R)<|Jb4 tv R (Jc4 (haE ai.cells) I71 Z71 R)<|Ob h λaW au h=>Jr3 R C148 (rD (κ:=Mk k) (p0:=p0) (p1:=p1) (p2:=L.1) (Ji3<|z.stp p) (Ji3<|A.stp p) (Ji3 ((af.mx (cD (bX _) _) B R (R:6+2=8)).stp (f.tr g)).rdc) (Ji3 ((ag.mx Pair.no127 B R (R:6+3=9)).stp (f.tr g)).rdc) au) ?_
 rintro _ aU ⟨aL,T,U,X,Y,W,V,Z,rfl,ad,aj,ak,al,am⟩
 obtain⟨P,S,j⟩:=Ji ad 11 R
 refine Tv<|Jb 4 R<|Ju<|Ja2 (l:=[.tmp 6,.tmp 7]) V73 (Jp2 R<|Jp2 R R) R ?_
 cases h
 exact⟨(λb=>ren [(13,2),(14,3),(15,4),(16,5)]<|P b),T,U,X,Y,W,V,Z,R,((hE.stp<|T8 d c a e i f g S).map (ren [(13,2),(14,3),(15,4),(16,5)]) R R),((aj.mx (cD (bX _) _) j R (R:11+2=13)).map (ren [(13,2),(14,3),(15,4),(16,5)]) R R),((ak.mx (cD (bX _) _) j R (R:11+3=14)).map (ren [(13,2),(14,3),(15,4),(16,5)]) R R),((al.mx Pair.no127 j R (R:11+4=15)).map (ren [(13,2),(14,3),(15,4),(16,5)]) R R),(λhs=>(((λhs=>(am hs).mx j R (R:11+5=16)) hs).map (ren [(13,2),(14,3),(15,4),(16,5)]) R R))⟩
 refine JT λh=>Jx R<|Je3 R<|Ju<|Jw<|Ja2 (l:=[.tmp 6,.tmp 7]) V73 (Jp2 R<|Jp2 R R) R ?_
 cases h
 exact⟨k,none,0,none,0,none,0,0,R,(hE.stp<|T7 d c a e i f g),Ow.nil,Ow.nil,Ow.nil,(λh=>absurd h Bool.false_ne_true)⟩
 refine JT λh=>Jx R<|Je3 R<|Ju<|Jw<|Ja2 (l:=[.tmp 6,.tmp 7]) V73 (Jp2 R<|Jp2 R R) R ?_
 cases h
 exact⟨o,none,0,none,0,none,0,0,R,(hE.stp<|T4 d c a e),Ow.nil,Ow.nil,Ow.nil,(λh=>absurd h Bool.false_ne_true)⟩
theorem qh {p0:Sig}{f i e g}{p1:Machine}{a2 k}{p2:(List Clause)}(D:Rd (Rp.sl (Rp.int .i64)) κ w 0 f i p1.Next) (E:Rd (Rp.sl (Rp.int .i64)) κ w 0 e g p1.Out) (F:Rd Clause.rp κ w 0 a2 k p2){r:Bool}(h:jY p0 p1 p2=some r):Ret Tryz.prog 29 [.agg #[vi p0.In,vi p0.Out],.agg #[.slice f p1.Next.length i,.slice e p1.Out.length g],.slice a2 p2.length k] w (Pvb κ w r):=by
 unfold jY at h
 refine Jk3 κ F29 R N29 R λhE=>Je [1,1,2] R<|Js3 (κ:=κ) 2 R λX w1 n b B=>Tv<|Js3 (κ:=n) 3 R λY ag p a C=>Tv<|Jb 1 R<|Je [1,1,2,1,2,2,2,2,2] R<|Jb4 tv R (Jc4 (haE (B.stp a).cells) I28 Z28 R)<|Jb4 tv R (Jc4 (haE C.cells) I33 Z33 R)<|Jn 1 R<|Ob h λm I h=>Jr3 R C73 (qk (κ:=Mk p) (p0:=p0) (p1:=p1) (Ji3<|D.stp<|b.tr a) (Ji3<|E.stp<|b.tr a) (Ji3<|F.stp<|b.tr a) I) ?_
 rintro _ L ⟨ab,U,Q,N,T,V,S,W,rfl,u,x,y,z,A⟩
 obtain⟨d,q,c⟩:=Ji u 4 R
 refine Tv<|Jb 5 R<|Jg3 [2,2,2,1,2,2,2,2] 2 R<|Ob h λK h G=>Jf4 [6] 22 K d L [(2,2),(3,1),(4,2),(5,2),(6,2)] [(7,2)] tv ?_ ?_
 revert h
 cases aa:m.2
 refine JF λh=>Jn 1 R<|Jz3 R<|Jn 3 R ?_
 cases h
 exact Jg4 tv R
 refine JT λh=>Jn 1 R<|Ob h λ_g96 H h=>?_
 have j:=vB H
 simp only[j,cond_true]
 refine Ob h λah J h=>Jr3 R C74 (nL (κ:=Mk d) (p0:=(m.1.getD (⟨([]:List (List Int)),([]:List (List Int)),([]:List Pair)⟩:watch))) (Ji3 (x.mx (cD (bX _) _) c R (R:4+2=6)).rdc) (Ji3 (y.mx (cD (bX _) _) c R (R:4+3=7)).rdc) (Ji3 (z.mx Pair.no127 c R (R:4+4=8)).rdc) (((λhs=>(A hs).mx c R (R:4+5=9)) j).map (mp [] 0) R R) J) ?_
 rintro _ ae ⟨ac,P,O,rfl,v,Z⟩
 obtain⟨M,s,ad⟩:=Ji v 10 R
 refine Tv<|Jn3 R U37 R R<|Jn 2 R ?_
 cases h
 exact Jv1 _ tv ⟨R,_,s.wk R⟩<|KM R
 rintro _ af _ ⟨rfl,o,t⟩
 have h:=G
 refine Jb 1 R<|Ju<|Ja2 (l:=[.tmp 6]) V29 (Jp2 R R) R ?_
 cases h
 exact⟨o,R,(hE.stp<|T4 b a q t)⟩
theorem mg {V ao}{p0:(List Clause)}{p1:Int}(aQ:Rd Clause.rp κ w 0 V ao p0){r:Machine×Bool}(h:dE p0 p1=some r):Ret Tryz.prog 19 [.slice V p0.length ao,vi p1] w (λv w'=>∃(κ':Col) (aj:Option Addr) (al:Nat) (ak:Option Addr) (am:Nat),v= .tuple #[.agg #[.slice aj r.1.Next.length al,.slice ak r.1.Out.length am],.bool r.2]/\Ent κ w κ' w'/\Oc (Ep.own E6 2) 37 κ' w' 2 aj al r.1.Next/\Oc (Ep.own E6 2) 37 κ' w' 3 ak am r.1.Out):=by
 unfold dE at h
 refine Jk3 κ F19 R N19 R λhE=>Je [1,2] R<|Jt3 (κ:=κ) 2 R X33 R λbg w1 av D J=>Tv<|Jb 1 R<|Je [2,1,1] R<|Jf R (Ji4 [vi 1,vi 1] R)<|Jt3 (κ:=av) 3 R X28 R λbh bz P m aO=>Tv<|Jh4 (κ:=P) 3 R Z28 R aO R λbH j W=>Tv<|Jd<|Jq<|Je [1,2,1,2,2,2,2,2,2,2,2,2] R<|Jb4 tv R (Jc4 (haE W.cells) I28 Z28 R)<|Jn 1 R<|Ob h λbc a5 h=>?_
 have X:=aQ.stp (T3 D m j)
 refine Jr3 R C63 (l7 (κ:=Mk P) (p0:=(⟨1,1⟩:Sig)) (Ji3 X) a5) ?_
 rintro _ ba ⟨bp,rfl,aG⟩
 obtain⟨au,f,bs⟩:=Ji aG 4 R
 refine Tv<|Jn 2 R<|Ob h λae h aR=>Jf4 [0,1,4,6] 19 ae au ba [(5,2),(6,2),(7,2)] [(8,2),(9,2),(10,2),(11,2)] tv ?_ ?_
 revert h
 cases bk:(!bc)
 refine JF λh=>Jn 3 R ?_
 cases h
 exact Jg4 tv R
 refine JT λh=>Jn 3 R ?_
 cases h
 exact Jg4 tv R
 rintro _ bb _ ⟨rfl,aw,g⟩
 have h:=aR
 refine Jn 1 R<|Ob h λaf h aS=>Jf4 [0,1,4,6] 23 af aw bb [(9,2),(10,2),(11,2)] [] tv ?_ ?_
 revert h
 cases bl:ae
 refine JF λh=>Jn 3 R ?_
 cases h
 exact Jg4 tv R
 refine JT λh=>Jn 3 R ?_
 cases h
 exact Jg4 tv R
 rintro _ ap _ ⟨rfl,z,i⟩
 have h:=aS
 refine Jd ?_
 revert h
 cases bm:af
 refine JF λh=>Jy R<|Js<|Jp<|Jq<|Je3 R<|Ob h λag aY ab=>?_
 clear h
 refine Jo3 [4] (λE L w'=>∃κ' an,L=E/\Stp [10] z ap κ' w'/\ag=eg an) ?_ ?_
 refine Jv<|Jp3 [0,1,4,6] (λk E L w'=>∃κ' c,L=(7,vi c)::E/\Stp [10] z ap κ' w'/\bU (ch p0 p1) k c=some ag) ⟨_,_,⟨z,(1:Int),R,Jj3,aY⟩,(KM R)⟩ ?_
 rintro k _ aq ⟨C,c,rfl,p,h⟩
 rcases k with _ | k
 cases h
 obtain⟨bu,h,K⟩:=BI h;unfold ch at h
 refine Jq<|Je3 R ?_
 revert h
 cases bn:decide (c<=p1)
 refine JF λh=>Jy R<|Jc1<|Jt<|Jt ?_
 cases h
 have h:=K
 refine Jb1 ?_
 cases h
 exact Jw1 _ ⟨C,c,R,p.wk R,R⟩<|KM R
 refine JT λh=>Jx R<|Js<|Jp<|Jq<|Jv<|Je3 R<|Jq<|Je3 R<|Ob h λ_ a1 h=>?_
 have aU:=kN a1
 refine Ob h λah aZ aT=>?_
 clear h
 refine Jo3 [0,1,4,6,7] (λE L w'=>∃κ' y,L=(8,vi y)::E/\Stp [] C aq κ' w'/\ah=eg y) ?_ ?_
 refine Jv<|Jp3 [0,1,4,6,7,30] (λk E L w'=>∃κ' d x,L=(8,vi x)::(31,vi d)::E/\Stp [] C aq κ' w'/\0<=d/\n6 (c-d)=k/\cntM (jX c) k d x=some ah) ⟨_,_,⟨C,0,(1:Int),R,Jj3,(by decide),(by simp),aZ⟩,(KM R)⟩ ?_
 rintro k _ bA ⟨O,d,x,rfl,U,aW,bi,h⟩
 rcases k with _ | k
 have M:=h;obtain⟨a8,h⟩:=cn (eg (Sum.inl x):(Machine×Bool)⊕((Int)⊕(Int)))
 have t:decide (d<c)=false:=Jo2 (by omega)
 refine Je3 R<|Jq<|Jw2 R t<|Jc1<|Jt<|Jt ?_
 cases h
 have h:=M
 refine Jb1 ?_
 cases h
 exact Jw1 _ ⟨O,x,R,U.wk R,R⟩<|KM R
 obtain⟨a8,h,M⟩:=BI h;unfold jX at h
 have t:decide (d<c)=true:=Jn2 (by omega)
 refine Je3 R<|Jq<|Jv2 R t<|Js<|Jp<|Jq<|Jv<|Jf3 R<|Jz<|Jp<|Jf3 R ?_
 have a3:cb .i64 (d+1)=d+1:=wr1 aW (Jm2 t) aU
 rw[a3]
 have t:=Jm2 t
 cases h
 exact Jz1 λa ha=>⟨k,_,Ja3 _,⟨O,d+1,((IntKind.i64.wrap<|x * (IntKind.i64.wrap ((IntKind.i64.wrap (4 * c)) * c))):Int),R,U.wk R,by omega,by omega,M⟩,(ha.mm R)⟩
 rintro _ ar ⟨G,y,rfl,A,rfl⟩
 have h:=yI aT
 refine Jp<|Je3 R<|Ob h λ_ a2 h=>?_
 have aV:=kN a2
 refine Ob h λai a0 ac=>?_
 clear h
 refine Jo3 [0,1,4,6,7] (λE L w'=>∃κ',L=E/\Stp [10] G ar κ' w'/\ai=eg ()) ?_ ?_
 refine Jv<|Jp3 [0,1,4,6,7,40] (λk E L w'=>∃κ' e,L=(41,vi e)::E/\Stp [10] G ar κ' w'/\0<=e/\n6 (y-e)=k/\cntM (dj p0 c) k e ()=some ai) ⟨_,_,⟨G,0,R,Jj3,(by decide),(by simp),a0⟩,(KM R)⟩ ?_
 rintro k _ bC ⟨Q,e,rfl,q,aX,bj,h⟩
 rcases k with _ | k
 have F:=h;obtain⟨a9,h⟩:=cn (eg (Sum.inl ()):(Machine×Bool)⊕((Unit)⊕(Unit)))
 have u:decide (e<y)=false:=Jo2 (by omega)
 refine Je3 R<|Jq<|Jw2 R u<|Jc1<|Jt<|Jt ?_
 cases h
 have h:=F
 refine Jb1 ?_
 cases h
 exact Jw1 _ ⟨Q,R,q.wk R,R⟩<|KM R
 obtain⟨a9,h,F⟩:=BI h;unfold dj at h
 have u:decide (e<y)=true:=Jn2 (by omega)
 refine Je3 R<|Jq<|Jv2 R u<|Js<|Jp<|Jq<|Jv<|Je3 R<|Jg3 [2,2,1,1,1] 2 R<|Ob h λbd a6 h=>Jr3 R C64 (pz (κ:=Mk Q) a6) ?_
 rintro _ bD ⟨bq,aC,aF,aE,aD,rfl,aH,aM,aN⟩
 obtain⟨ay,B,ad⟩:=Ji aH 6 R
 refine Tv<|Jt3 (κ:=ay) 10 R X33 R λbf bE S n aP=>Tv<|Jh4 (κ:=S) 10 R Z33 R aP R λbF o Y=>Tv<|Jd<|Je [1,1,2,1] R<|Jb4 tv R (Jc4 (haE (W.stp<|T9 f g i p A q B n o).cells) I28 Z28 R)<|Jb4 tv R (Jc4 (haE Y.cells) I33 Z33 R)<|Jn 1 R<|Ob h λbe a7 h=>?_
 have Z:=(aM.mx (cD (bX _) _) ad R (R:6+2=8)).stp (n.tr o)
 have aa:=(aN.mx (cD (bX _) _) ad R (R:6+3=9)).stp (n.tr o)
 refine Jr3 R C29 (qh (κ:=Mk S) (p0:=(⟨1,1⟩:Sig)) (p1:=bd) (Ji3 Z.rdc) (Ji3 aa.rdc) (Ji3<|X.stp<|T9 f g i p A q B n o) a7) ?_
 rintro _ bG ⟨br,rfl,aI⟩
 obtain⟨H,s,bt⟩:=Ji aI 11 R
 refine Tv<|Jd ?_
 revert h
 cases bo:be
 refine JF λh=>Jy R<|Js<|Jz<|Jp<|Jf3 R ?_
 have a4:cb .i64 (e+1)=e+1:=wr1 aX (Jm2 u) aV
 rw[a4]
 have u:=Jm2 u
 cases h
 exact Jz1 λa ha=>⟨k,_,Ja3 _,⟨H,e+1,R,(T5 q B n o s).wk R,by omega,by omega,F⟩,(ha.mm R)⟩
 refine JT λh=>Jx R<|Je [1,1,2] R<|Jb4 tv R (Jc4 (haE (Y.stp s).cells) I33 Z33 R)<|Jh4 (κ:=H) 2 R Z33 R (J.stp<|T12 m j f g i p A q B n o s) R λbI I aJ=>Tv<|Jb 1 R<|Ju<|Ja1<|Jw<|Jw ?_
 cases h
 obtain rfl:=Option.some.inj F
 have h:=yL ac
 refine Ja1<|Jq2<|Ja1<|Jw<|Jw ?_
 cases h
 obtain rfl:=Option.some.inj K
 have h:=yL ab
 refine Ja1<|Jq2<|Jw<|Ja2 (l:=[.cell 4 33,.tmp 5]) V19 (ca R aJ I33 Z33 R<|Jp2 R R) R ?_
 cases h
 exact⟨(λb=>ren [(8,2),(9,3)]<|H b),aC,aF,aE,aD,R,((hE.stp<|T14 D m j f g i p A q B n o s I).map (ren [(8,2),(9,3)]) R R),((Z.stp<|s.tr I).map (ren [(8,2),(9,3)]) R R),((aa.stp<|s.tr I).map (ren [(8,2),(9,3)]) R R)⟩
 rintro _ bB ⟨ax,rfl,aB,rfl⟩
 have h:=yI ac
 refine Jz<|Jp<|Jf3 R ?_
 cases h
 exact Jz1 λa ha=>⟨k,_,Ja3 _,⟨ax,((IntKind.i64.wrap<|c+1):Int),R,(T3 p A aB).wk R,K⟩,(ha.mm R)⟩
 rintro _ bx ⟨N,an,rfl,T,rfl⟩
 have h:=yI ab
 refine Jp<|Je [2,1,2] R<|Jf R (Ji4 [.slice none 0 0,.slice none 0 0] R)<|Jh4 (κ:=N) 2 R Z33 R (J.stp<|T6 m j f g i T) R λbv az aK=>Tv<|Jb 1 R<|Ju<|Ja2 (l:=[.cell 4 33,.tmp 5]) V19 (ca R aK I33 Z33 R<|Jp2 R R) R ?_
 cases h
 exact⟨N,none,0,none,0,R,(hE.stp<|T8 D m j f g i T az),Ow.nil,Ow.nil⟩
 refine JT λh=>Jx R<|Je [2,1,2] R<|Jf R (Ji4 [.slice none 0 0,.slice none 0 0] R)<|Jh4 (κ:=z) 2 R Z33 R (J.stp<|T5 m j f g i) R λbw aA aL=>Tv<|Jb 1 R<|Ju<|Jw<|Ja2 (l:=[.cell 4 33,.tmp 5]) V19 (ca R aL I33 Z33 R<|Jp2 R R) R ?_
 cases h
 exact⟨z,none,0,none,0,R,(hE.stp<|T7 D m j f g i aA),Ow.nil,Ow.nil⟩
theorem mu {p0:Sig}{a1 aZ}{p1:(List Clause)}(b0:Rd Clause.rp κ w 0 a1 aZ p1){r:Det×Bool}(h:cU p0 p1=some r):Ret Tryz.prog 51 [.agg #[vi p0.In,vi p0.Out],.slice a1 p1.length aZ] w (λv w'=>∃(κ':Col) (aV:Option Addr) (aX:Nat) (aW:Option Addr) (aY:Nat),v= .tuple #[.agg #[.slice aV r.1.Next.length aX,.slice aW r.1.Pairs.length aY],.bool r.2]/\Ent κ w κ' w'/\Oc (Ep.own E6 2) 37 κ' w' 2 aV aX r.1.Next/\Oc Pair.ep127 127 κ' w' 3 aW aY r.1.Pairs):=by
 unfold cU at h
 refine Jk3 κ F51 R N51 R λhE=>Je [1,1,2] R<|Js3 (κ:=κ) 2 R λch w1 a6 Q bL=>Tv<|Jt3 (κ:=a6) 3 R X71 R λci cS bb D aq=>Tv<|Jb 1 R<|Jq<|Je [1,2,1,2] R ?_
 have aJ:=bL.stp D
 refine Jb4 tv R (Jc4 (haE aJ.cells) I28 Z28 R)<|Jn 1 R<|Ob h λce b7 h=>?_
 have ag:=b0.stp (Q.tr D)
 refine Jr3 R C75 (pV (κ:=Mk bb) (p0:=p0) (Ji3 ag) b7) ?_
 rintro _ cB ⟨cp,rfl,bm⟩
 obtain⟨al,m,cv⟩:=Ji bm 4 R
 refine Tv<|Jb 1 R ?_
 revert h
 cases cm:(!ce)
 refine JF λh=>Jy R<|Js<|Jp<|Je [1,1,1,1,2,1,1] R ?_
 have aF:=aJ.stp m
 refine Jb4 tv R (Jc4 (haE aF.cells) I28 Z28 R)<|Ob h λcZ b8 h=>Jr3 R C120 (fC (κ:=Mk al) (p0:=p0) b8) ?_
 rintro _ cO ⟨cs,rfl,bp⟩
 obtain⟨a7,s,cw⟩:=Ji bp 6 R
 refine Tv<|Ob h λak b9 h=>Jl1 (κ:=a7) (E:=E6) (z:=(0:Int)) 8 R R R R R R R Y37 a8 R R R R R (λ_ _ _=>R) (Ju2 b9) λbg bk cP a9 t bJ=>Tv<|Jw3 (κ:=a9) (E:=(Ep.own E6 2)) 9 [8] (parts:=[(0,.tmp 17)]) (cells:=[.slice bg ak.length bk]) (xs:=([ak]:List (List Int))) R Y31 bT R (Je4 ⟨_,_,R,bJ⟩) λar aD cQ ba u bK=>Tv<|Jf R (Ji4 [.slice ar ([ak]:List (List Int)).length aD,.slice none 0 0] R)<|Jt3 (κ:=ba) 10 R X71 R λaE cR J o bM=>Tv<|Jh4 (κ:=J) 10 R Z71 R bM R λa0 p bN=>Tv<|Jd<|Jq<|Je3 R ?_
 have b1:(p1.length:Int)<=9223372036854775807:=ag.len_le
 refine Ob h λaU b4 aM=>?_
 clear h
 refine Jo3 [4,6] (λE L w'=>∃κ',∃A:(List<|List Int)×(List Pair),∃V ab U Z,L=E/\Stp [10,12,13,16,18,19,20] J a0 κ' w'/\Oc (Ep.own E6 2) 37 κ' w' 9 V ab A.1/\Oc Pair.ep127 127 κ' w' 11 U Z A.2/\Bc κ' w' 10 aE 71 [.slice V A.1.length ab,.slice U A.2.length Z]/\aU=eg A) ?_ ?_
 refine Jv<|Jp3 [1,2,4,6] (λk E L w'=>∃κ' f,∃c:(List<|List Int)×(List Pair),∃aa Y ad ae,L=(7,vi f)::E/\Stp [10,12,13,16,18,19,20] J a0 κ' w'/\Oc (Ep.own E6 2) 37 κ' w' 9 aa Y c.1/\Oc Pair.ep127 127 κ' w' 11 ad ae c.2/\Bc κ' w' 10 aE 71 [.slice aa c.1.length Y,.slice ad c.2.length ae]/\0<=f/\n6 ((p1.length:Int)-f)=k/\cntM (eo p0 p1) k f c=some aU) ⟨_,_,⟨J,0,((([ak]:List (List Int)):(List<|List Int)),(([]:List Pair):(List Pair))),ar,aD,none,0,R,Jj3,(bK.stp<|o.tr p),Ow.nil,bN,(by decide),(by simp),b4⟩,(KM R)⟩ ?_
 rintro k _ cd ⟨B,f,c,aa,Y,ad,ae,rfl,x,ah,ai,ap,b2,ck,h⟩
 rcases k with _ | k
 have aj:=h;obtain⟨cc,h⟩:=cn (eg (Sum.inl c):(Det×Bool)⊕(((List (List Int))×(List Pair))⊕((List (List Int))×(List Pair))))
 have y:decide (f<(p1.length:Int))=false:=Jo2 (by omega)
 refine Jq<|Jg3 [2,2,2,2] 2 R<|Jn3 R U29 R R<|Jb 1 R<|Jw2 R y<|Jc1<|Jt<|Jt ?_
 cases h
 have h:=aj
 refine Jb1 ?_
 cases h
 exact Jw1 _ ⟨B,(c.1,c.2),aa,Y,ad,ae,R,x.wk R,ah,ai,ap,R⟩<|KM R
 obtain⟨cc,h,aj⟩:=BI h;unfold eo at h
 have y:decide (f<(p1.length:Int))=true:=Jn2 (by omega)
 refine Jq<|Jg3 [2,2,2,2] 2 R<|Jn3 R U29 R R<|Jb 1 R<|Jv2 R y<|Js<|Jp<|Jq<|Jv<|Jq<|Ob h λa2 aN h=>Ob h λav aO h=>Ob h λn au h=>Jo3 [1,2,4,6,7] (λE L w'=>∃κ' g X af W ac,L=(8,.pointer (some ⟨g,0,none⟩))::(9,.bool n.2)::E/\Stp [12,16,18,19,20] B cd κ' w'/\Oc (Ep.own E6 2) 37 κ' w' 12 X af n.1.Next/\Oc Pair.ep127 127 κ' w' 13 W ac n.1.Pairs/\Bc κ' w' 14 g 71 [.slice X n.1.Next.length af,.slice W n.1.Pairs.length ac]) ?_ ?_
 refine WC.rxt (κ:=B) [0,2,10] none (by kernel_rfl) λcW e=>Jq1 (fuel:=8) [(3,2),(4,2),(5,2),(0,0),(1,0),(2,0),(6,0)] (by kernel_rfl) (by kernel_rfl) R<|Jn 2 R<|Jc3 R ag aN U29 Z67 ?_
 have aG:=aF.stp (T7 s t u o p x e)
 refine Jg R (Jc4 (haC aG.cells R) I28 Z28 R)<|Jg R (Jc4 (haC (ap.stp e).cells R) I71 Z71 R)<|Jg R (Jc4 (haC aG.cells R) I28 Z28 R) ?_
 obtain⟨cj,b5,b3⟩:=((ag.stp (T8 m s t u o p x e))).gSt aN
 obtain⟨cf,cx,cg,cy,rfl,aK,aL⟩:=Clause.un b5
 refine Jg R (Jc4 (haC b3 R) I67 Z67 R)<|Jp1<|WA.fork2 (fuel:=7) 7 12 (by kernel_rfl) R ?_ ?_
 refine Jr3 R C122 (ms (κ:=Mk B) (p0:=p0) (p1:=a2) (Ji3 aK) (Ji3 aL) aO) ?_
 rintro _ cX ⟨ct,bi,bf,bh,bj,rfl,bq,bV,bW⟩
 obtain⟨aA,d,aS⟩:=Ji bq 12 R
 refine⟨(d.cl R),?_⟩
 have aH:=bV.mx (cD (bX _) _) aS R (R:12+2=14)
 have aI:=bW.mx Pair.no127 aS R (R:12+3=15)
 refine Jp1<|WA.fork2 (fuel:=6) 8 12 (by kernel_rfl) R ?_ ?_
 refine Jr3 R C121 (ke (κ:=Mk aA) (p0:=p0) (p1:=(⟨c.1,c.2⟩:Det)) (p2:=av) (Ji3 (ah.stp<|e.tr d).rdc) (Ji3 (ai.stp<|e.tr d).rdc) (Ji3 aH.rdc) (Ji3 aI.rdc) au) ?_
 rintro _ cY ⟨cu,I,G,F,H,rfl,br,bY,bZ⟩
 obtain⟨bc,T,aT⟩:=Ji br 16 R
 exact⟨((d.tr T).cl R),Jp1<|Jq1 (fuel:=0) [(9,2),(10,2),(11,2),(12,1),(13,1),(14,2)] (by kernel_rfl) (by kernel_rfl) R<|Jn 3 R<|Jt3 (κ:=bc) 20 R X71 R λg cz aw C bs=>⟨((T3 d T C).cl R),Jh4 (κ:=aw) 20 R Z71 R bs R λcA M bt=>⟨((T4 d T C M).cl R),Jn 1 R<|Jp1<|Jr1 [] (by kernel_rfl) (by kernel_rfl) R<|Jo<|Jw1 _ ⟨(λb=>ren [(18,12),(19,13),(20,14)]<|aw b),g,I,G,F,H,R,(Jy2 ((T5 e d T C M).wk R) [(18,12),(19,13),(20,14)] R),(((bY.mx (cD (bX _) _) aT R (R:16+2=18)).stp (C.tr M)).map (ren [(18,12),(19,13),(20,14)]) R R),(((bZ.mx Pair.no127 aT R (R:16+3=19)).stp (C.tr M)).map (ren [(18,12),(19,13),(20,14)]) R R),(bt.map (ren [(18,12),(19,13),(20,14)]) R R)⟩<|KM R⟩⟩⟩
 refine Jt3 (κ:=aA) 16 R X71 R λg cC a3 i bu=>⟨((d.tr i).cl R),Jp1<|Jq1 (fuel:=0) [(8,1),(9,2),(10,2),(11,2),(13,1),(14,2)] (by kernel_rfl) (by kernel_rfl) R<|Jr3 R C121 (ke (κ:=Mk a3) (p0:=p0) (p1:=(⟨c.1,c.2⟩:Det)) (p2:=av) (Ji3 (ah.stp<|T3 e d i).rdc) (Ji3 (ai.stp<|T3 e d i).rdc) (Ji3 (aH.stp i).rdc) (Ji3 (aI.stp i).rdc) au) ?_⟩
 rintro _ cE ⟨co,I,G,F,H,rfl,bl,bv,bw⟩
 obtain⟨ax,N,aP⟩:=Ji bl 17 R
 exact⟨((T3 d i N).cl R),Jn 3 R<|Jh4 (κ:=ax) 16 R Z71 R (bu.stp N) R λcF O bx=>⟨((T4 d i N O).cl R),Jn 1 R<|Jp1<|Jr1 [] (by kernel_rfl) (by kernel_rfl) R<|Jo<|Jw1 _ ⟨(λb=>ren [(19,12),(20,13),(16,14)]<|ax b),g,I,G,F,H,R,(Jy2 ((T5 e d i N O).wk R) [(19,12),(20,13),(16,14)] R),(((bv.mx (cD (bX _) _) aP R (R:17+2=19)).stp O).map (ren [(19,12),(20,13),(16,14)]) R R),(((bw.mx Pair.no127 aP R (R:17+3=20)).stp O).map (ren [(19,12),(20,13),(16,14)]) R R),(bx.map (ren [(19,12),(20,13),(16,14)]) R R)⟩<|KM R⟩⟩
 refine Jt3 (κ:=B) 12 R X71 R λg cG a4 j bz=>⟨(j.cl R),Jp1<|Jq1 (fuel:=0) [(7,1),(8,1),(9,2),(10,2),(11,2),(13,1),(14,2)] (by kernel_rfl) (by kernel_rfl) R<|Jr3 R C122 (ms (κ:=Mk a4) (p0:=p0) (p1:=a2) (Ji3<|aK.stp j) (Ji3<|aL.stp j) aO) ?_⟩
 rintro _ cH ⟨cq,bi,bf,bh,bj,rfl,bn,bA,bB⟩
 obtain⟨a5,q,aQ⟩:=Ji bn 13 R
 refine⟨((j.tr q).cl R),Jr3 R C121 (ke (κ:=Mk a5) (p0:=p0) (p1:=(⟨c.1,c.2⟩:Det)) (p2:=av) (Ji3 (ah.stp<|T3 e j q).rdc) (Ji3 (ai.stp<|T3 e j q).rdc) (Ji3 (bA.mx (cD (bX _) _) aQ R (R:13+2=15)).rdc) (Ji3 (bB.mx Pair.no127 aQ R (R:13+3=16)).rdc) au) ?_⟩
 rintro _ cI ⟨cr,I,G,F,H,rfl,bo,bC,bD⟩
 obtain⟨ay,am,aR⟩:=Ji bo 17 R
 have aB:=(T3 j q am)
 exact⟨(aB.cl R),Jn 3 R<|Jh4 (κ:=ay) 12 R Z71 R (bz.stp<|q.tr am) R λcJ P bE=>⟨((aB.tr P).cl R),Jn 1 R<|Jp1<|Jr1 [] (by kernel_rfl) (by kernel_rfl) R<|Jo<|Jw1 _ ⟨(λb=>ren [(19,12),(20,13),(12,14)]<|ay b),g,I,G,F,H,R,(Jy2 ((T5 e j q am P).wk R) [(19,12),(20,13),(12,14)] R),(((bC.mx (cD (bX _) _) aR R (R:17+2=19)).stp P).map (ren [(19,12),(20,13),(12,14)]) R R),(((bD.mx Pair.no127 aR R (R:17+3=20)).stp P).map (ren [(19,12),(20,13),(12,14)]) R R),(bE.map (ren [(19,12),(20,13),(12,14)]) R R)⟩<|KM R⟩⟩
 rintro _ cV ⟨K,g,X,af,W,ac,rfl,S,bR,bS,bU⟩
 refine Jp<|Jq<|Je3 R ?_
 revert h
 cases cl:(!n.2)
 refine JF λh=>Jy R<|Js<|Jp<|Ja [1,1] R<|Jb4 tv R (Jc4 (haE bU.cells) I71 Z71 R)<|Jh4 (κ:=K) 10 R Z71 R (ap.stp S) R λcL an bG=>Tv<|Jo<|Jz<|Jp<|Jf3 R ?_
 have b6:cb .i64 (f+1)=f+1:=wr1 b2 (Jm2 y) b1
 rw[b6]
 have y:=Jm2 y
 cases h
 exact Jz1 λa ha=>⟨k,_,Ja3 _,⟨(λb=>ren [(12,9),(13,11)]<|K b),f+1,(n.1.Next,n.1.Pairs),X,af,W,ac,R,(Jy2 ((T3 x S an).wk R) [(12,9),(13,11)] R),((bR.stp an).map (ren [(12,9),(13,11)]) R R),((bS.stp an).map (ren [(12,9),(13,11)]) R R),(bG.map (ren [(12,9),(13,11)]) R R),by omega,by omega,aj⟩,(ha.mm R)⟩
 refine JT λh=>Jx R<|Je [2,1,2] R<|Jf R (Ji4 [.slice none 0 0,.slice none 0 0] R)<|Jh4 (κ:=K) 3 R Z71 R (aq.stp<|T8 m s t u o p x S) R λcK bd bF=>Tv<|Jb 1 R<|Ju<|Jw<|Ja1<|Jw<|Jw ?_
 cases h
 obtain rfl:=Option.some.inj aj
 have h:=yL aM
 refine Ja1<|Jq2<|Jw<|Ja2 (l:=[.cell 4 71,.tmp 5]) V51 (ca R bF I71 Z71 R<|Jp2 R R) R ?_
 cases h
 exact⟨K,none,0,none,0,R,(hE.stp<|T11 Q D m s t u o p x S bd),Ow.nil,Ow.nil⟩
 rintro _ cT ⟨az,A,V,ab,U,Z,rfl,aC,bO,bP,bQ,rfl⟩
 have h:=yI aM
 refine Jp<|Je [1,1,2] R<|Jb4 tv R (Jc4 (haE bQ.cells) I71 Z71 R)<|Jh4 (κ:=az) 3 R Z71 R (aq.stp<|T7 m s t u o p aC) R λcM ao bH=>Tv<|Jb 1 R<|Ju<|Ja2 (l:=[.cell 4 71,.tmp 5]) V51 (ca R bH I71 Z71 R<|Jp2 R R) R ?_
 cases h
 exact⟨(λb=>ren [(9,2),(11,3)]<|az b),V,ab,U,Z,R,((hE.stp<|T10 Q D m s t u o p aC ao).map (ren [(9,2),(11,3)]) R R),((bO.stp ao).map (ren [(9,2),(11,3)]) R R),((bP.stp ao).map (ren [(9,2),(11,3)]) R R)⟩
 refine JT λh=>Jx R<|Je [2,1,2] R<|Jf R (Ji4 [.slice none 0 0,.slice none 0 0] R)<|Jh4 (κ:=al) 3 R Z71 R (aq.stp m) R λcN be bI=>Tv<|Jb 1 R<|Ju<|Jw<|Ja2 (l:=[.cell 4 71,.tmp 5]) V51 (ca R bI I71 Z71 R<|Jp2 R R) R ?_
 cases h
 exact⟨al,none,0,none,0,R,(hE.stp<|T4 Q D m be),Ow.nil,Ow.nil⟩
theorem kO {aL aM aJ aI aN aG}{p0:Parity}{a1 bp}{p1:(List Int)}(cd:Rd (Rp.int .i64) κ w 0 aL aM p0.Arena.Owner) (ce:Rd (Rp.sl (Rp.int .i64)) κ w 0 aJ aI p0.Arena.Next) (cf:Rd (Rp.int .i64) κ w 0 aN aG p0.Prio) (cg:Rd (Rp.int .i64) κ w 0 a1 bp p1){r:Answer×Bool}(h:ki p0 p1=some r):Ret Tryz.prog 139 [.agg #[.slice aL p0.Arena.Owner.length aM,.slice aJ p0.Arena.Next.length aI,.slice aN p0.Prio.length aG],.slice a1 p1.length bp] w (λv w'=>∃(κ':Col) (bl:Option Addr) (bn:Nat) (bm:Option Addr) (bo:Nat),v= .tuple #[.agg #[.slice bl r.1.Won.length bn,.slice bm r.1.Plan.length bo],.bool r.2]/\Ent κ w κ' w'/\Oc E6 2 κ' w' 2 bl bn r.1.Won/\Oc E6 2 κ' w' 3 bm bo r.1.Plan):=by
 unfold ki at h
 refine Jk3 κ F139 R N139 R λhE=>Je [1,1,2] R<|Js3 (κ:=κ) 2 R λc2 w1 bz A b2=>Tv<|Jt3 (κ:=bz) 3 R X85 R λc3 dz bD y aw=>Tv<|Jb 1 R<|Jq<|Je [1,2,1,2] R ?_
 have aZ:=b2.stp y
 refine Jb4 tv R (Jc4 (haE aZ.cells) I79 Z79 R)<|Jn 1 R<|Ob h λcN cv h=>?_
 have aO:=cd.stp (A.tr y)
 have aP:=ce.stp (A.tr y)
 have aR:=cf.stp (A.tr y)
 have Z:=cg.stp (A.tr y)
 refine Jr3 R C199 (qr (κ:=Mk bD) (p0:=p0) (Ji3 aO) (Ji3 aP) (Ji3 aR) (Ji3 Z) cv) ?_
 rintro _ dn ⟨df,rfl,bN⟩
 obtain⟨ag,i,dj⟩:=Ji bN 4 R
 refine Tv<|Jb 1 R ?_
 revert h
 cases da:(!cN)
 refine JF λh=>Jy R<|Js<|Jp<|Je [1,1,2] R ?_
 have aV:=aZ.stp i
 refine Jb4 tv R (Jc4 (haE aV.cells) I79 Z79 R)<|Ob h λG cw h=>?_
 have aW:=aO.stp i
 have aX:=aP.stp i
 have aY:=aR.stp i
 refine Jr3 R C200 (nA (κ:=Mk ag) (p0:=p0) (Ji3 aW) (Ji3 aX) (Ji3 aY) cw) ?_
 rintro _ dx ⟨dh,aK,aH,rfl,bP,b1⟩
 obtain⟨bB,s,cH⟩:=Ji bP 6 R
 refine Tv<|?_
 have ap:=b1.mx (bX _) cH R (R:6+2=8)
 refine Jb 1 R<|Je [1,1,1,1] R ?_
 have aq:=aV.stp s
 refine Jb4 tv R (Jc4 (haE aq.cells) I79 Z79 R)<|Ob h λd cx h=>?_
 have P:=aW.stp s
 refine Jr3 R C201 (ra (κ:=λb=>mp [] 1<|bB b) (p0:=p0) (Jl2 P (mp [] 1) R R) (Jl2 (aX.stp s) (mp [] 1) R R) (Jl2 (aY.stp s) (mp [] 1) R R) cx) ?_
 rintro _ dy ⟨di,c1,ar,c0,cY,cW,cV,cZ,cX,J,I,rfl,bQ,b3,b4,b5,b6,b7⟩
 obtain⟨bC,x,bf,aA⟩:=Jj bQ 9 R
 refine Tv<|Jt3 (κ:=bC) 16 R X210 R λc4 dA T n b8=>Tv<|Jh4 (κ:=T) 16 R Z210 R b8 R λbq o au=>Tv<|Jd<|Jq<|Je3 R ?_
 have cl:(p1.length:Int)<=9223372036854775807:=Z.len_le
 refine Ob h λbi ct a0=>?_
 clear h
 refine Jo3 [2,4,6,7] (λE L w'=>∃κ',∃Q:(List Int),L=E/\Stp [15] T bq κ' w'/\Oc E6 2 κ' w' 15 J I Q/\d.pick.length=Q.length/\bi=eg Q) ?_ ?_
 refine Jv<|Jp3 [1,2,4,6,7] (λk E L w'=>∃κ' p,∃N:(List Int),L=(8,vi p)::E/\Stp [15] T bq κ' w'/\Oc E6 2 κ' w' 15 J I N/\d.pick.length=N.length/\0<=p/\n6 ((p1.length:Int)-p)=k/\cntM (gp p0 p1 G) k p N=some bi) ⟨_,_,⟨T,0,d.pick,R,Jj3,((b7.mx (bX _) bf R (R:9+6=15)).stp (n.tr o)),R,(by decide),(by simp),ct⟩,(KM R)⟩ ?_
 rintro k _ dC ⟨ah,p,N,rfl,C,av,ay,cm,c6,h⟩
 rcases k with _ | k
 have ab:=h;obtain⟨cJ,h⟩:=cn (eg (Sum.inl N):(Answer×Bool)⊕(((List Int))⊕((List Int))))
 have K:decide (p<(p1.length:Int))=false:=Jo2 (by omega)
 refine Jq<|Jg3 [2,2,2,2] 2 R<|Jn3 R U37 R R<|Jb 1 R<|Jw2 R K<|Jc1<|Jt<|Jt ?_
 cases h
 have h:=ab
 refine Jb1 ?_
 cases h
 exact Jw1 _ ⟨ah,N,R,C.wk R,av,ay,R⟩<|KM R
 obtain⟨cJ,h,ab⟩:=BI h;unfold gp at h
 have K:decide (p<(p1.length:Int))=true:=Jn2 (by omega)
 refine Jq<|Jg3 [2,2,2,2] 2 R<|Jn3 R U37 R R<|Jb 1 R<|Jv2 R K<|Js<|Jp<|Jq<|Jv<|Jq<|Jq<|Js1 (κ:=ah) [0,2,8] none [(0,2),(1,2),(2,2),(3,0),(4,2),(5,2),(6,2),(7,2),(8,2),(10,2),(11,2),(13,2),(9,0),(12,0),(14,2),(15,0),(16,2),(17,2)] [] (by kernel_rfl) (by kernel_rfl) λcM D=>Jn 2 R<|Ob h λcO a5 h=>Jc3 R Z a5 U37 Z2 ?_
 have ax:=Z.stp (T7 i s x n o C D)
 refine Jg R (Jc2 I2 R R<|hvC (ax.gInt a5) R)<|Jn 2 R<|Ob h λbg h ck=>Jf4 [1,2,4,6,7,8] 45 bg ah cM [(6,2),(7,2),(8,2),(10,2),(11,2),(13,2),(9,0),(12,0),(14,2),(15,0),(16,2),(17,2)] [] (Cl.refl _ _ _) ?_ ?_
 revert h
 cases db:(cO !=(-1))
 refine JF λh=>Jn 6 R<|Ja4 R<|Ja4 R<|Jn 1 R<|Ja4 R<|Jn 2 R ?_
 cases h
 exact Jv1 _ (Cl.refl _ _ _) ⟨R,_,Jj3⟩<|KM R
 have ai:=(T5 x n o C D)
 refine JT λh=>Jn 2 R<|Ob h λdF a6 h=>Jc3 R ap.rdc a6 U37 Z2<|Jd3 R U79 R Z75<|Jd3 R U75 R Z37<|Jn 1 R<|Jg R (Jc2 I2 R R<|hvC ((ap.stp ai).rdc.gInt a6) R)<|Jg R (Jc2 I37 R R<|hvC ((aq.stp ai).ld 0 R R) R)<|Ob h λdG a7 h=>Jc3 R P a7 U37 Z2<|Jg R (Jc2 I2 R R<|hvC ((P.stp ai).gInt a7) R)<|Jn 2 R ?_
 cases h
 exact Jv1 _ (Cl.refl _ _ _) ⟨R,_,Jj3⟩<|KM R
 rintro _ dD _ ⟨rfl,U,H⟩
 have h:=ck
 refine Jt1<|Jd ?_
 revert h
 cases dc:bg
 refine JF λh=>Jy R<|Js<|Jp<|Js1 (κ:=U) [0,16] none [(0,2),(2,2),(3,2),(4,2),(5,2),(1,0),(6,0),(7,2),(8,1)] [] (by kernel_rfl) (by kernel_rfl) λdk W=>Jd3 R U210 R Z37<|Jn 3 R<|Ob h λdH a8 h=>Jc3 R ax a8 U37 Z2<|Jg R (Jc2 I37 R R<|hvC ((au.stp<|T4 C D H W).ld 4 R R) R)<|Jg R (Jc2 I2 R R<|hvC ((ax.stp<|H.tr W).gInt a8) R)<|Ob h λdI cy h=>Jf R (Jf2 av.rdc cy U37 Z2 R R ay R)<|Ob h λbr bd h=>Jk1 (κ:=U) (E:=E6) 15 [] R R R R R R R R Z2 R R R R (av.stp<|T3 D H W) bd λdl bt aE bR=>⟨(aE.cl R),?_⟩
 have co:d.pick.length=br.length:=ay.trans (Jt2 bd).2.2.2.symm
 refine Jt1<|Jo<|Jz<|Jp<|Jf3 R ?_
 have cu:cb .i64 (p+1)=p+1:=wr1 cm (Jm2 K) cl
 rw[cu]
 have K:=Jm2 K
 cases h
 exact Jz1 λa ha=>⟨k,_,Ja3 _,⟨bt,p+1,br,R,(T5 C D H W aE).wk R,bR,co,by omega,by omega,ab⟩,(ha.mm R)⟩
 refine JT λh=>Jx R<|Je [2,1,2] R<|Jf R (Ji4 [.slice none 0 0,.slice none 0 0] R)<|Jh4 (κ:=U) 3 R Z85 R (aw.stp<|T8 i s x n o C D H) R λdE bG cc=>Tv<|Jb 1 R<|Ju<|Jw<|Ja1<|Jw<|Jw ?_
 cases h
 obtain rfl:=Option.some.inj ab
 have h:=yL a0
 refine Ja1<|Jq2<|Jw<|Ja2 (l:=[.cell 4 85,.tmp 5]) V139 (ca R cc I85 Z85 R<|Jp2 R R) R ?_
 cases h
 exact⟨U,none,0,none,0,R,(hE.stp<|T11 A y i s x n o C D H bG),Ow.nil,Ow.nil⟩
 rintro _ dB ⟨bE,Q,rfl,B,b9,cr,rfl⟩
 have h:=yI a0
 refine Jp<|Jg3 [2,1,2] 1 R<|Ob h λcP cz h=>?_
 have aQ:=ap.stp (T4 x n o B)
 refine Jr3 R C202 (nh (κ:=Mk bE) (Ji3 aQ.rdc) cz) ?_
 rintro _ dm ⟨dd,bH,bK,rfl,bL,bS⟩
 obtain⟨bu,u,cE⟩:=Ji bL 17 R
 refine Tv<|Jb 1 R<|Jg3 [2,1,2] 1 R<|Ob h λcQ cA h=>?_
 have F:=aQ.stp u
 refine Jr3 R C202 (nh (κ:=Mk bu) (Ji3 F.rdc) cA) ?_
 rintro _ ad ⟨de,bJ,bI,rfl,bM,bT⟩
 obtain⟨bv,e,cF⟩:=Ji bM 20 R
 refine Tv<|Jb 1 R<|Jq<|Je3 R ?_
 obtain⟨bw,f,cT⟩:=kB bv ad 19
 obtain⟨ae,g,cU⟩:=kB bw ad 22
 have a2:(G.length:Int)<=9223372036854775807:=F.len_le
 refine Ob h λbj cs ch=>?_
 clear h
 refine Jo3 [4,6,7] (λE L w'=>∃κ',∃ac:(List Int),L=E/\Stp [15,25] ae ad κ' w'/\Oc E6 2 κ' w' 15 J I ac/\d.pick.length=ac.length/\bj=eg ac) ?_ ?_
 refine Jv<|Jp3 [2,4,6,7,9,10] (λk E L w'=>∃κ' c,∃z:(List Int),L=(11,vi c)::E/\Stp [15,25] ae ad κ' w'/\Oc E6 2 κ' w' 15 J I z/\d.pick.length=z.length/\0<=c/\n6 ((G.length:Int)-c)=k/\cntM (gt p0 G d cP cQ) k c z=some bj) ⟨_,_,⟨ae,0,Q,R,Jj3,(b9.stp<|T4 u e f g),cr,(by decide),(by simp),cs⟩,(KM R)⟩ ?_
 rintro k _ dq ⟨af,c,z,rfl,j,an,M,a3,c5,h⟩
 rcases k with _ | k
 have aa:=h;obtain⟨cI,h⟩:=cn (eg (Sum.inl z):(Answer×Bool)⊕(((List Int))⊕((List Int))))
 have t:decide (c<(G.length:Int))=false:=Jo2 (by omega)
 refine Jq<|Jg3 [2,2,2,2] 2 R<|Jn3 R U37 R R<|Jb 1 R<|Jw2 R t<|Jc1<|Jt<|Jt ?_
 cases h
 have h:=aa
 refine Jb1 ?_
 cases h
 exact Jw1 _ ⟨af,z,R,j.wk R,an,M,R⟩<|KM R
 obtain⟨cI,h,aa⟩:=BI h;unfold gt at h
 have t:decide (c<(G.length:Int))=true:=Jn2 (by omega)
 refine Jq<|Jg3 [2,2,2,2] 2 R<|Jn3 R U37 R R<|Jb 1 R<|Jv2 R t<|Js<|Jp<|Jq<|Jv<|Jq<|Jq<|Js1 (κ:=af) [0,2,8,15,16] none [(0,2),(2,2),(1,0),(3,2),(4,0),(5,2),(6,2),(7,2),(8,2),(9,2),(11,2),(12,2),(14,2),(10,0),(13,0),(15,2),(16,0),(17,2),(18,2)] [] (by kernel_rfl) (by kernel_rfl) λcK m=>Jd3 R U210 R Z37<|Jn 1 R ?_
 have aS:=au.stp (T7 B u e f g j m)
 refine Jg R (Jc2 I37 R R<|hvC (aS.ld 4 R R) R)<|Ob h λcR a9 h=>Jf R (Jf2 an.rdc a9 U37 Z2 R R M R) ?_
 have ao:=an.stp m
 refine Jg R (Jc2 I2 R R<|hvC (ao.rdc.gInt a9) R)<|Jn 2 R<|Ob h λbh h ci=>Jf4 [2,4,6,7,9,10,11] 83 bh af cK [(7,2),(8,2),(9,2),(11,2),(12,2),(14,2),(10,0),(13,0),(15,2),(16,0),(17,2),(18,2)] [] (Cl.refl _ _ _) ?_ ?_
 revert h
 cases c7:decide (0<=cR)
 have aD:=(T10 x n o B u e f g j m)
 refine JF λh=>Jn 2 R<|Ob h λdJ ba h=>Jc3 R F.rdc ba U37 Z2<|Jd3 R U79 R Z75<|Jd3 R U75 R Z37<|Jn 1 R<|Jg R (Jc2 I2 R R<|hvC ((F.stp<|T5 e f g j m).rdc.gInt ba) R)<|Jg R (Jc2 I37 R R<|hvC ((aq.stp aD).ld 0 R R) R)<|Ob h λdK bb h=>Jc3 R P bb U37 Z2<|Jg R (Jc2 I2 R R<|hvC ((P.stp aD).gInt bb) R)<|Jn 2 R ?_
 cases h
 exact Jv1 _ (Cl.refl _ _ _) ⟨R,_,Jj3⟩<|KM R
 refine JT λh=>Jn 6 R<|Ja4 R<|Ja4 R<|Jn 1 R<|Ja4 R<|Jn 2 R ?_
 cases h
 exact Jv1 _ (Cl.refl _ _ _) ⟨R,_,Jj3⟩<|KM R
 rintro _ cL _ ⟨rfl,S,q⟩
 have h:=ci
 refine Jt1<|Jd ?_
 revert h
 cases c8:bh
 refine JF λh=>Jy R<|Js<|Jp<|Je3 R<|Jq<|Jg3 [2,2,2,1,2] 2 R<|Ob h λcS bc h=>Jc3 R F.rdc bc U37 Z2<|Jb3 R I2 ((F.stp<|T6 e f g j m q).rdc.gInt bc)<|Jb 1 R<|Ob h λbk h cj=>Jo3 [2,4,6,7,9,10,11] (λE L w'=>∃κ' al am,L=(12,.slice al bk.length am)::E/\Stp [] S cL κ' w'/\Rd Rp.bool κ' w' 0 al am bk) ?_ ?_
 revert h
 cases c9:(cS==1)
 refine JF λh=>Jy R<|Js ?_
 cases h
 exact Jw1 _ ⟨S,bH,bK,R,Jj3,((Sl.st cT ((bS.mx dV cE R (R:17+2=19)).stp e).rdc).stp (T4 g j m q))⟩<|KM R
 refine JT λh=>Jx R<|Jf3 R ?_
 cases h
 exact Jw1 _ ⟨S,bJ,bI,R,Jj3,((Sl.st cU ((bT.mx dV cF R (R:20+2=22)).stp f).rdc).stp (T3 j m q))⟩<|KM R
 rintro _ dr ⟨aC,al,am,rfl,Y,bV⟩
 have h:=cj
 refine Jp<|Js1 (κ:=aC) [16] none [(0,2),(2,2),(4,2),(5,2),(1,0),(3,0),(6,1),(7,2),(8,1)] [] (by kernel_rfl) (by kernel_rfl) λds O=>Jd3 R U210 R Z37<|Jn 3 R ?_
 have aT:=aS.stp (T3 q Y O)
 have V:=(T12 n o B u e f g j m q Y O)
 refine Jg R (Jc2 I37 R R<|hvC (aT.ld 4 R R) R)<|Jg R (Jc4 (haC aT.cells R) I210 Z210 R)<|Ob h λdL cB h=>Jr3 R C203 (Ret.cast (by simp only[M,List.cons_append,List.nil_append])<|tB (κ:=λb=>mp [(15,2)] 0<|aC b) (p0:=(⟨d.owner,d.prio,d.next,d.prev,z⟩:l7Game)) (Jl2 ((b3.mx aA).stp V) (mp [(15,2)] 0) R R) (Jl2 ((b4.mx aA).stp V) (mp [(15,2)] 0) R R) (Jl2 ((b5.mx aA).stp V) (mp [(15,2)] 0) R R) (Jl2 ((b6.mx (cD (bX _) _) bf R (R:9+5=14)).stp V).rdc (mp [(15,2)] 0) R R) ((ao.stp<|T3 q Y O).map (mp [(15,2)] 0) R R) (Jl2 (bV.stp O) (mp [(15,2)] 0) R R) cB) ?_
 rintro _ dt ⟨dg,rfl,bO,bW,a4⟩
 obtain⟨bx,aj,cG⟩:=Ji bO 23 R
 refine⟨(aj.cl R),?_⟩
 have aU:=bW.mx (bX _) cG R (R:23+2=25)
 refine Ob h λdM cC h=>Jf R (Jf2 aU.rdc cC U37 Z2 R R (M.trans a4) R)<|Ob h λbs be h=>Jk1 (κ:=bx) (E:=E6) 25 [] R R R R R R R R Z2 R R R R aU be λdu bA aF bY=>⟨((aj.tr aF).cl R),?_⟩
 have cq:d.pick.length=bs.length:=(M.trans a4).trans (Jt2 be).2.2.2.symm
 refine Jt1<|Jo<|Jz<|Jp<|Jf3 R ?_
 have az:cb .i64 (c+1)=c+1:=wr1 a3 (Jm2 t) a2
 rw[az]
 have t:=Jm2 t
 cases h
 exact Jz1 λa ha=>⟨k,_,Ja3 _,⟨(λb=>ren [(25,15)]<|bA b),c+1,bs,R,(Jy2 ((T7 j m q Y O aj aF).wk R) [(25,15)] R),(bY.map (ren [(25,15)]) R R),cq,by omega,by omega,aa⟩,(ha.mm R)⟩
 refine JT λh=>Jx R<|Jc1<|Jt<|Jb1<|Jp<|Jf3 R ?_
 have az:cb .i64 (c+1)=c+1:=wr1 a3 (Jm2 t) a2
 rw[az]
 have t:=Jm2 t
 cases h
 exact Jz1 λa ha=>⟨k,_,Ja3 _,⟨S,c+1,z,R,(T3 j m q).wk R,(ao.stp q),M,by omega,by omega,aa⟩,(ha.mm R)⟩
 rintro _ dp ⟨aB,ac,rfl,X,bU,cp,rfl⟩
 have h:=yI ch
 refine Jp<|Jg3 [2,2,1,2,1,2] 1 R<|Jd3 R U210 R Z37<|Jb3 R I37 ((au.stp<|T6 B u e f g X).ld 4 R R)<|Jf R (Ji4 [.slice aK G.length aH,.slice J d.pick.length I] R)<|Jh4 (κ:=aB) 3 R Z85 R (aw.stp<|T11 i s x n o B u e f g X) R λdv ak bZ=>Tv<|Jb 1 R<|Ju<|Ja2 (l:=[.cell 4 85,.tmp 5]) V139 (ca R bZ I85 Z85 R<|Jp2 R R) R ?_
 cases h
 exact⟨(λb=>ren [(8,2),(15,3)]<|aB b),aK,aH,J,I,(by simp only[cp]),((hE.stp<|T14 A y i s x n o B u e f g X ak).map (ren [(8,2),(15,3)]) R R),((F.stp<|T5 e f g X ak).map (ren [(8,2),(15,3)]) R R),((bU.stp ak).map (ren [(8,2),(15,3)]) R R)⟩
 refine JT λh=>Jx R<|Je [2,1,2] R<|Jf R (Ji4 [.slice none 0 0,.slice none 0 0] R)<|Jh4 (κ:=ag) 3 R Z85 R (aw.stp i) R λdw bF b0=>Tv<|Jb 1 R<|Ju<|Jw<|Ja2 (l:=[.cell 4 85,.tmp 5]) V139 (ca R b0 I85 Z85 R<|Jp2 R R) R ?_
 cases h
 exact⟨ag,none,0,none,0,R,(hE.stp<|T4 A y i bF),Ow.nil,Ow.nil⟩
theorem tt {Z aa Y ab ac X}{p0:Parity}(a0:Rd (Rp.int .i64) κ w 0 Z aa p0.Arena.Owner) (a1:Rd (Rp.sl (Rp.int .i64)) κ w 0 Y ab p0.Arena.Next) (a2:Rd (Rp.int .i64) κ w 0 ac X p0.Prio){r:Answer}(h:kZ p0=some r):Ret Tryz.prog 67 [.agg #[.slice Z p0.Arena.Owner.length aa,.slice Y p0.Arena.Next.length ab,.slice ac p0.Prio.length X]] w (λv w'=>∃(κ':Col) (al:Option Addr) (an:Nat) (am:Option Addr) (ao:Nat),v= .agg #[.slice al r.Won.length an,.slice am r.Plan.length ao]/\Ent κ w κ' w'/\Oc E6 2 κ' w' 2 al an r.Won/\Oc E6 2 κ' w' 3 am ao r.Plan):=by
 unfold kZ at h
 refine Jk3 κ F67 R N67 R λhE=>Je [1,1] R<|Js3 (κ:=κ) 2 R λa8 w1 aq m aQ=>Tv<|Jt3 (κ:=aq) 3 R X85 R λa9 bq au j af=>Tv<|Jd<|Jq<|Je [1,1,2] R ?_
 have ag:=aQ.stp j
 refine Jb4 tv R (Jc4 (haE ag.cells) I79 Z79 R)<|Ob h λa7 a3 h=>?_
 have G:=a0.stp (m.tr j)
 have H:=a1.stp (m.tr j)
 have I:=a2.stp (m.tr j)
 refine Jr3 R C138 (nf (κ:=Mk au) (p0:=p0) (Ji3 G) (Ji3 H) (Ji3 I) a3) ?_
 rintro _ a6 ⟨bc,rfl,aB⟩
 obtain⟨g,d,bh⟩:=Ji aB 4 R
 refine Tv<|Jb 1 R ?_
 revert h
 cases ba:(!a7)
 refine JF λh=>Jy R<|Js<|Jp<|Jq<|Ob h λbz ah h=>Ob h λJ P h=>Jo3 [2] (λE L w'=>∃κ' c F D C B,L=(3,.pointer (some ⟨c,0,none⟩))::E/\Stp [6,9,11,12,13] g a6 κ' w'/\Oc E6 2 κ' w' 6 F D J.1.Won/\Oc E6 2 κ' w' 7 C B J.1.Plan/\Bc κ' w' 8 c 85 [.slice F J.1.Won.length D,.slice C J.1.Plan.length B]) ?_ ?_
 refine WC.rxt (κ:=g) [2] none (by kernel_rfl) λbn f=>Jq1 (fuel:=8) [(1,2),(0,0),(2,0),(3,2)] (by kernel_rfl) (by kernel_rfl) R<|Jd3 R U79 R Z37 ?_
 have ad:=ag.stp (d.tr f)
 refine Jg R (Jc4 (haC ad.cells R) I79 Z79 R)<|Jg R (Jc2 I37 R R<|hvC (ad.ld 2 R R) R)<|Jn3 R U37 R R<|Jp1<|WA.fork2 (fuel:=7) 4 9 (by kernel_rfl) R ?_ ?_
 refine Jr3 R C140 (oK (κ:=Mk g) ah) ?_
 rintro _ bo ⟨bd,ay,az,rfl,aC,aP⟩
 obtain⟨T,a,a5⟩:=Ji aC 6 R
 refine⟨(a.cl R),?_⟩
 have ae:=aP.mx (bX _) a5 R (R:6+2=8)
 refine Jp1<|WA.fork2 (fuel:=6) 5 9 (by kernel_rfl) R ?_ ?_
 have K:=(T3 d f a)
 refine Jr3 R C139 (kO (κ:=Mk T) (p0:=p0) (Ji3<|G.stp K) (Ji3<|H.stp K) (Ji3<|I.stp K) (Ji3 ae.rdc) P) ?_
 rintro _ bp ⟨be,s,q,p,o,rfl,aD,aR,aS⟩
 obtain⟨ar,x,aj⟩:=Ji aD 9 R
 exact⟨((a.tr x).cl R),Jp1<|Jq1 (fuel:=0) [(6,2),(7,2),(8,2),(9,1),(10,1),(11,2)] (by kernel_rfl) (by kernel_rfl) R<|Jn 3 R<|Jt3 (κ:=ar) 13 R X85 R λc br U n aT=>⟨((T3 a x n).cl R),Jh4 (κ:=U) 13 R Z85 R aT R λbs y aU=>⟨((T4 a x n y).cl R),Jn 1 R<|Jp1<|Jr1 [] (by kernel_rfl) (by kernel_rfl) R<|Jo<|Jw1 _ ⟨(λb=>ren [(11,6),(12,7),(13,8)]<|U b),c,s,q,p,o,R,(Jy2 ((T5 f a x n y).wk R) [(11,6),(12,7),(13,8)] R),(((aR.mx (bX _) aj R (R:9+2=11)).stp (n.tr y)).map (ren [(11,6),(12,7),(13,8)]) R R),(((aS.mx (bX _) aj R (R:9+3=12)).stp (n.tr y)).map (ren [(11,6),(12,7),(13,8)]) R R),(aU.map (ren [(11,6),(12,7),(13,8)]) R R)⟩<|KM R⟩⟩⟩
 have M:=(T3 d f a)
 refine Jt3 (κ:=T) 9 R X85 R λc bt av e aV=>⟨((a.tr e).cl R),Jp1<|Jq1 (fuel:=0) [(5,1),(6,2),(7,2),(8,2),(10,1),(11,2)] (by kernel_rfl) (by kernel_rfl) R<|Jr3 R C139 (kO (κ:=Mk av) (p0:=p0) (Ji3<|G.stp<|M.tr e) (Ji3<|H.stp<|M.tr e) (Ji3<|I.stp<|M.tr e) (Ji3 (ae.stp e).rdc) P) ?_⟩
 rintro _ bu ⟨bf,s,q,p,o,rfl,aE,aW,aX⟩
 obtain⟨V,z,ak⟩:=Ji aE 10 R
 exact⟨((T3 a e z).cl R),Jn 3 R<|Jh4 (κ:=V) 9 R Z85 R (aV.stp z) R λbv A aY=>⟨((T4 a e z A).cl R),Jn 1 R<|Jp1<|Jr1 [] (by kernel_rfl) (by kernel_rfl) R<|Jo<|Jw1 _ ⟨(λb=>ren [(12,6),(13,7),(9,8)]<|V b),c,s,q,p,o,R,(Jy2 ((T5 f a e z A).wk R) [(12,6),(13,7),(9,8)] R),(((aW.mx (bX _) ak R (R:10+2=12)).stp A).map (ren [(12,6),(13,7),(9,8)]) R R),(((aX.mx (bX _) ak R (R:10+3=13)).stp A).map (ren [(12,6),(13,7),(9,8)]) R R),(aY.map (ren [(12,6),(13,7),(9,8)]) R R)⟩<|KM R⟩⟩
 refine Jt3 (κ:=g) 6 R X85 R λc bw aw k aZ=>⟨(k.cl R),Jp1<|Jq1 (fuel:=0) [(4,1),(5,1),(6,2),(7,2),(8,2),(10,1),(11,2)] (by kernel_rfl) (by kernel_rfl) R<|Jr3 R C140 (oK (κ:=Mk aw) ah) ?_⟩
 rintro _ bx ⟨bg,ay,az,rfl,aF,aG⟩
 obtain⟨ap,i,a4⟩:=Ji aF 7 R
 have N:=(T4 d f k i)
 refine⟨((k.tr i).cl R),Jr3 R C139 (kO (κ:=Mk ap) (p0:=p0) (Ji3<|G.stp N) (Ji3<|H.stp N) (Ji3<|I.stp N) (Ji3 (aG.mx (bX _) a4 R (R:7+2=9)).rdc) P) ?_⟩
 rintro _ bi ⟨bb,s,q,p,o,rfl,aA,aH,aI⟩
 obtain⟨Q,t,ai⟩:=Ji aA 10 R
 exact⟨((T3 k i t).cl R),Jn 3 R<|Jh4 (κ:=Q) 6 R Z85 R (aZ.stp<|i.tr t) R λbj u aJ=>⟨((T4 k i t u).cl R),Jn 1 R<|Jp1<|Jr1 [] (by kernel_rfl) (by kernel_rfl) R<|Jo<|Jw1 _ ⟨(λb=>ren [(12,6),(13,7),(6,8)]<|Q b),c,s,q,p,o,R,(Jy2 ((T5 f k i t u).wk R) [(12,6),(13,7),(6,8)] R),(((aH.mx (bX _) ai R (R:10+2=12)).stp u).map (ren [(12,6),(13,7),(6,8)]) R R),(((aI.mx (bX _) ai R (R:10+3=13)).stp u).map (ren [(12,6),(13,7),(6,8)]) R R),(aJ.map (ren [(12,6),(13,7),(6,8)]) R R)⟩<|KM R⟩⟩
 rintro _ bm ⟨S,c,F,D,C,B,rfl,W,aM,aN,aO⟩
 refine Jp<|Je [1,1] R<|Jb4 tv R (Jc4 (haE aO.cells) I85 Z85 R)<|Jh4 (κ:=S) 3 R Z85 R (af.stp<|d.tr W) R λbk O aK=>Tv<|Jd<|Ju<|Ja2 (l:=[.cell 2 85]) V67 (ca R aK I85 Z85 R R) R ?_
 cases h
 exact⟨(λb=>ren [(6,2),(7,3)]<|S b),F,D,C,B,R,((hE.stp<|T5 m j d W O).map (ren [(6,2),(7,3)]) R R),((aM.stp O).map (ren [(6,2),(7,3)]) R R),((aN.stp O).map (ren [(6,2),(7,3)]) R R)⟩
 refine JT λh=>Jx R<|Je [2,1] R<|Jf R (Ji4 [.slice none 0 0,.slice none 0 0] R)<|Jh4 (κ:=g) 3 R Z85 R (af.stp d) R λbl ax aL=>Tv<|Jd<|Ju<|Jw<|Ja2 (l:=[.cell 2 85]) V67 (ca R aL I85 Z85 R R) R ?_
 cases h
 exact⟨g,none,0,none,0,R,(hE.stp<|T4 m j d ax),Ow.nil,Ow.nil⟩
theorem sb {p0:Sig}{bd a3 ba a7}{p1:Det}{bc a1 a2 bb a6 a4}{p2:Parity}{aZ bO}{X:(List Place)}{a0 bP}{Y:(List Int)}(c4:Rd (Rp.sl (Rp.int .i64)) κ w 0 bd a3 p1.Next) (c5:Rd Pair.rp κ w 0 ba a7 p1.Pairs) (c6:Rd (Rp.int .i64) κ w 0 bc a1 p2.Arena.Owner) (c7:Rd (Rp.sl (Rp.int .i64)) κ w 0 a2 bb p2.Arena.Next) (c8:Rd (Rp.int .i64) κ w 0 a6 a4 p2.Prio) (bx:Rd Place.rp κ w 0 aZ bO X) (bz:Rd (Rp.int .i64) κ w 0 a0 bP Y){r:Machine×Bool}(h:mS p0 p1 p2 X Y=some r):Ret Tryz.prog 68 [.agg #[vi p0.In,vi p0.Out],.agg #[.slice bd p1.Next.length a3,.slice ba p1.Pairs.length a7],.agg #[.slice bc p2.Arena.Owner.length a1,.slice a2 p2.Arena.Next.length bb,.slice a6 p2.Prio.length a4],.slice aZ X.length bO,.slice a0 Y.length bP] w (λv w'=>∃(κ':Col) (bK:Option Addr) (bM:Nat) (bL:Option Addr) (bN:Nat),v= .tuple #[.agg #[.slice bK r.1.Next.length bM,.slice bL r.1.Out.length bN],.bool r.2]/\Ent κ w κ' w'/\Oc (Ep.own E6 2) 37 κ' w' 2 bK bM r.1.Next/\Oc (Ep.own E6 2) 37 κ' w' 3 bL bN r.1.Out):=by
 unfold mS at h
 refine Jk3 κ F68 R N68 R λhE=>Je [1,1,1,1,2] R<|Js3 (κ:=κ) 2 R λdG w1 b9 G cW=>Tv<|Js3 (κ:=b9) 3 R λdH eH cd C c3=>Tv<|Js3 (κ:=cd) 4 R λdI eN bS u cB=>Tv<|Jt3 (κ:=bS) 5 R X33 R λdF em b2 q bg=>Tv<|Jb 1 R<|Je [1,2] R<|Jd4 (κ:=b2) 6 [0] R Y37 a8 R λcm ct eu b7 n cM=>Tv<|Jb 1 R<|Je [2,1,1] R<|Jf R (Ji4 [.slice none 0 0,.slice none 0 0] R)<|Jt3 (κ:=b7) 7 R X33 R λbe eC Z j cR=>Tv<|Jh4 (κ:=Z) 7 R Z33 R cR R λbQ m cS=>Tv<|Jd<|Jq<|Je3 R<|Ob h λbI dd bA=>?_
 clear h
 refine Jo3 [10,13] (λE L w'=>∃κ',∃H:(List Int)×Int×(List<|List Int)×(List<|List Int),∃a5 a9 ai ar ak au,L=E/\Stp [6,7,8,9,10,11,12,13] Z bQ κ' w'/\Oc E6 2 κ' w' 6 a5 a9 H.1/\Oc (Ep.own E6 2) 37 κ' w' 8 ai ar H.2.2.1/\Oc (Ep.own E6 2) 37 κ' w' 9 ak au H.2.2.2/\Bc κ' w' 7 be 33 [.slice ai H.2.2.1.length ar,.slice ak H.2.2.2.length au]/\bI=eg H) ?_ ?_
 refine Jv<|Jp3 [3,4,5,6,7,10,13] (λk E L w'=>∃κ',∃c:(List Int)×Int×(List<|List Int)×(List<|List Int),∃U T ax ae Q S,L=(12,.slice U c.1.length T)::(14,vi c.2.1)::E/\Stp [6,7,8,9,10,11,12,13] Z bQ κ' w'/\Oc E6 2 κ' w' 6 U T c.1/\Oc (Ep.own E6 2) 37 κ' w' 8 ax ae c.2.2.1/\Oc (Ep.own E6 2) 37 κ' w' 9 Q S c.2.2.2/\Bc κ' w' 7 be 33 [.slice ax c.2.2.1.length ae,.slice Q c.2.2.2.length S]/\bU (iK p0 p1 p2 X Y) k c=some bI) ⟨_,_,⟨Z,((([0]:List Int):(List Int)),(0:Int),(([]:List (List Int)):(List<|List Int)),(([]:List (List Int)):(List<|List Int))),cm,ct,none,0,none,0,R,Jj3,(cM.stp<|j.tr m),Ow.nil,Ow.nil,cS,dd⟩,(KM R)⟩ ?_
 rintro k _ eG ⟨aU,c,U,T,ax,ae,Q,S,rfl,o,az,bl,bm,bn,h⟩
 rcases k with _ | k
 cases h
 obtain⟨ee,h,aM⟩:=BI h;unfold iK at h
 refine Jq<|Jg3 [2,2,2,2] 2 R<|Jn3 R U37 R R<|Jb 1 R ?_
 revert h
 cases d1:decide (c.2.1<(c.1.length:Int))
 refine JF λh=>Jy R<|Jc1<|Jt<|Jt ?_
 cases h
 have h:=aM
 refine Jb1 ?_
 cases h
 exact Jw1 _ ⟨aU,(c.1,c.2.1,c.2.2.1,c.2.2.2),U,T,ax,ae,Q,S,R,o.wk R,az,bl,bm,bn,R⟩<|KM R
 refine JT λh=>Jx R<|Js<|Jp<|Jq<|Jv<|Jg3 [2,2,2,2,1,2,2,1,2] 3 R<|Ob h λeP bC h=>Jc3 R az.rdc bC U37 Z2<|Jb3 R I2 (az.rdc.gInt bC)<|Ob h λdv bD h=>Jc3 R bx bD U80 Z88<|Jd3 R U88 R Z2 ?_
 have bo:=bx.stp (T8 G C u q n j m o)
 obtain⟨dV,dg,dc⟩:=(bo).gSt bD
 obtain⟨dE,ei,rfl,dY⟩:=Place.un dg
 refine Jb3 R I2 (λw' aN=>dc w' aN 0 _ R)<|Jb 1 R<|Je [1,2] R<|Jx3 (κ:=aU) (E:=E6) 10 R Y37 a8 R λcq cu eI cc f cX=>Tv<|Jb 1 R<|Je [1,2] R<|Jx3 (κ:=cc) (E:=E6) 11 R Y37 a8 R λci cs bR aC d cY=>Tv<|Jb 1 R<|Jq<|Je3 R<|Ob h λbJ de da=>?_
 clear h
 refine Jo3 [3,4,5,6,7,10,13,14] (λE L w'=>∃κ',∃i:(List Int)×(List Int)×(List Int)×Int,∃ap aq af aj ah ao,L=(12,.slice ap i.1.length aq)::(16,.slice af i.2.1.length aj)::(17,.slice ah i.2.2.1.length ao)::E/\Stp [6,10,11] aC bR κ' w'/\Oc E6 2 κ' w' 6 ap aq i.1/\Oc E6 2 κ' w' 10 af aj i.2.1/\Oc E6 2 κ' w' 11 ah ao i.2.2.1/\bJ=eg i) ?_ ?_
 refine Jv<|Jp3 [3,4,5,6,7,10,13,14,15] (λk E L w'=>∃κ',∃g:(List Int)×(List Int)×(List Int)×Int,∃V W an av ay ad,L=(12,.slice V g.1.length W)::(16,.slice an g.2.1.length av)::(17,.slice ay g.2.2.1.length ad)::(18,vi g.2.2.2)::E/\Stp [6,10,11] aC bR κ' w'/\Oc E6 2 κ' w' 6 V W g.1/\Oc E6 2 κ' w' 10 an av g.2.1/\Oc E6 2 κ' w' 11 ay ad g.2.2.1/\bU (gh p0 p1 p2 X Y c dv) k g=some bJ) ⟨_,_,⟨aC,(c.1,(([]:List Int):(List Int)),(([]:List Int):(List Int)),(0:Int)),U,T,cq,cu,ci,cs,R,Jj3,(az.stp<|f.tr d),(cX.stp d),cY,de⟩,(KM R)⟩ ?_
 rintro k _ eK ⟨ce,g,V,W,an,av,ay,ad,rfl,s,aL,bp,bq,h⟩
 rcases k with _ | k
 cases h
 obtain⟨ef,h,bB⟩:=BI h;unfold gh at h
 refine Jq<|Jg3 [2,1,1,2] 1 R ?_
 have br:=cW.stp (T10 C u q n j m o f d s)
 refine Jb4 tv R (Jc4 (haE br.cells) I28 Z28 R)<|Ob h λdw di h=>Jr3 R C60 (kH (κ:=Mk ce) (p0:=p0) di) ?_
 rintro _ eL ⟨d7,rfl,cz⟩
 obtain⟨aE,e,ec⟩:=Ji cz 12 R
 refine Tv<|Jb 1 R ?_
 revert h
 cases d2:decide (g.2.2.2<dw)
 refine JF λh=>Jy R<|Jc1<|Jt<|Jt ?_
 cases h
 have h:=bB
 refine Jb1 ?_
 cases h
 exact Jw1 _ ⟨aE,(g.1,g.2.1,g.2.2.1,g.2.2.2),V,W,an,av,ay,ad,R,(s.tr e).wk R,(aL.stp e),(bp.stp e),(bq.stp e),R⟩<|KM R
 refine JT λh=>Jx R<|Js<|Jp<|Jq<|Jv<|Jq<|Js1 (κ:=aE) [0,2,3,4,6] none [(0,2),(2,2),(3,2),(4,2),(5,2),(9,2),(10,2),(1,0),(6,0),(7,0),(8,0),(11,1),(12,1),(13,2),(14,0),(15,2)] [] (by kernel_rfl) (by kernel_rfl) λeM p=>Jn 4 R<|Ob h λeQ bE h=>Jc3 R aL.rdc bE U37 Z2<|Jn 2 R<|Jg R (Jc4 (haC (cB.stp<|T10 q n j m o f d s e p).cells R) I79 Z79 R) ?_
 have bs:=aL.stp (e.tr p)
 refine Jg R (Jc2 I2 R R<|hvC (bs.rdc.gInt bE) R) ?_
 have bt:=br.stp (e.tr p)
 refine Jg R (Jc4 (haC bt.cells R) I28 Z28 R) ?_
 have bu:=c3.stp (T11 u q n j m o f d s e p)
 refine Jg R (Jc4 (haC bu.cells R) I71 Z71 R)<|Ob h λeR dj h=>?_
 have bv:=c4.stp (T13 G C u q n j m o f d s e p)
 have bw:=c5.stp (T13 G C u q n j m o f d s e p)
 refine Jr3 R C142 (qu (κ:=Mk aE) (p0:=p0) (p1:=p1) (Ji3 bv) (Ji3 bw) dj) ?_
 rintro _ eO ⟨d8,rfl,cA⟩
 obtain⟨cf,t,ed⟩:=Ji cA 14 R
 refine⟨(t.cl R),Ob h λeS dk h=>?_⟩
 have aJ:=bo.stp (T6 f d s e p t)
 have aF:=(T14 G C u q n j m o f d s e p t)
 refine Jr3 R C141 (uB (κ:=Mk cf) (p0:=p2) (Ji3<|c6.stp aF) (Ji3<|c7.stp aF) (Ji3<|c8.stp aF) (Ji3 aJ) dk) ?_
 rintro _ ej ⟨d3,rfl,cv⟩
 obtain⟨bV,x,d9⟩:=Ji cv 16 R
 refine⟨((t.tr x).cl R),Ob h λdx bF h=>Jc3 R bz bF U37 Z2<|Jg R (Jc2 I2 R R<|hvC ((bz.stp<|T13 G C u q n j m o f d s e p).gInt bF) R)<|Jn 1 R<|Jt1<|Jd<|Jq<|Jg3 [2,2,1,2] 2 R<|Ob h λdy dl h=>?_⟩
 have aK:=bs.stp (t.tr x)
 refine Jr3 R C56 (jO (κ:=Mk bV) (Ji3 aK.rdc) dl) ?_
 rintro _ du ⟨d4,rfl,cw⟩
 obtain⟨aB,y,ea⟩:=Ji cw 18 R
 refine Tv<|Jb 1 R<|Ob h λaO h c9=>Jo3 [3,4,5,6,7,10,13,14,15,16,17,18,19] (λE L w'=>∃κ' al aw,L=(12,.slice al aO.length aw)::E/\Stp [6] aB du κ' w'/\Oc E6 2 κ' w' 6 al aw aO) ?_ ?_
 revert h
 cases dZ:decide (dy<0)
 refine JF λh=>Jy R<|Js ?_
 cases h
 exact Jw1 _ ⟨aB,V,W,R,Jj3,(aK.stp y)⟩<|KM R
 refine JT λh=>Jx R<|Jh3 [2,2,1,1,2] 2 R<|Jd4 (κ:=aB) 20 [dx] R Y37 a8 R λdN dP el bY aX cC=>Tv<|Ob h λeT dm h=>Jy3 (κ:=bY) (E:=E6) 6 [] R Y37 a8 R (aK.stp<|y.tr aX) (Sl.srcP (co _) cC.rdc) bZ dm R λcr cj en b0 cg cD=>Tv<|Jc 1 R ?_
 cases h
 exact Jw1 _ ⟨b0,cr,cj,R,(aX.tr cg).wk R,cD⟩<|KM R
 rintro _ ek ⟨bW,al,aw,rfl,I,bf⟩
 have h:=c9
 refine Jp<|Jg3 [2,2,2,1,1,1,2] 3 R<|Ob h λdz dn h=>Jr3 R C56 (jO (κ:=Mk bW) (Ji3 bf.rdc) dn) ?_
 rintro _ eo ⟨d5,rfl,cx⟩
 obtain⟨b1,D,eb⟩:=Ji cx 20 R
 have aV:=(T5 t x y I D)
 refine Tv<|Jd4 (κ:=b1) 22 [dz] R Y37 a8 R λbk dT ep b3 z cE=>Tv<|Ob h λdA dp h=>Jy3 (κ:=b3) (E:=E6) 10 [] R Y37 a8 R (bp.stp<|T8 e p t x y I D z) (Sl.srcP (co _) cE.rdc) bZ dp R λcp ck eq aQ F cF=>Tv<|Jb 1 R<|Js1 (κ:=aQ) [0,2,3] none [(0,2),(3,2),(4,2),(5,2),(6,2),(7,2),(8,2),(1,0),(2,0),(9,0),(10,1),(11,2),(12,1),(13,1),(14,1),(15,2)] [] (by kernel_rfl) (by kernel_rfl) λer A=>Jn 5 R<|Ob h λeU bG h=>Jc3 R aJ bG U80 Z88<|Jd3 R U88 R Z2<|Jg R (Jc4 (haC (bt.stp<|T4 aV z F A).cells R) I28 Z28 R)<|Jg R (Jc4 (haC (bu.stp<|T4 aV z F A).cells R) I71 Z71 R) ?_
 obtain⟨dU,df,db⟩:=((aJ.stp (T7 x y I D z F A))).gSt bG
 obtain⟨dD,eh,rfl,dX⟩:=Place.un df
 have aW:=(T8 t x y I D z F A)
 refine Jg R (Jc2 I2 R R<|hvC (λw' aN=>db w' aN 0 _ R) R)<|Ob h λeV dq h=>Jr3 R C143 (pY (κ:=Mk aQ) (p0:=p0) (p1:=p1) (Ji3<|bv.stp aW) (Ji3<|bw.stp aW) dq) ?_
 rintro _ es ⟨d6,dJ,dS,rfl,cy,cG⟩
 obtain⟨b4,B,dt⟩:=Ji cy 23 R
 refine⟨(B.cl R),?_⟩
 have bh:=cG.mx (bX _) dt R (R:23+2=25)
 refine Ob h λdB bH h=>Jc3 R bh.rdc bH U37 Z2<|Jb4 (B.cl R) R (Jc2 I2 R R<|hvE<|bh.rdc.gInt bH)<|Jd4 (κ:=b4) 26 [dB] R Y37 a8 R λdM dR et b5 J cH=>⟨((B.tr J).cl R),Ob h λdC dr h=>Jy3 (κ:=b5) (E:=E6) 11 [] R Y37 a8 R (bq.stp<|T12 e p t x y I D z F A B J) (Sl.srcP (co _) cH.rdc) bZ dr R λcl cn ev b6 aa cI=>⟨((T3 B J aa).cl R),Jn 1 R<|Jt1<|Jo<|Jz<|Jp<|Jf3 R ?_⟩⟩
 cases h
 exact Jz1 λa ha=>⟨k,_,Ja3 _,⟨b6,(aO,dA,dC,((IntKind.i64.wrap<|g.2.2.2+1):Int)),al,aw,cp,ck,cl,cn,R,(T14 s e p t x y I D z F A B J aa).wk R,(bf.stp<|T7 D z F A B J aa),(cF.stp<|T4 A B J aa),cI,bB⟩,(ha.mm R)⟩
 rintro _ eJ ⟨aD,i,ap,aq,af,aj,ah,ao,rfl,M,c0,c1,c2,rfl⟩
 have h:=yI da
 refine Jp<|Jq<|Jg3 [2,2,2] 1 R<|Jn3 R U37 R R<|Jb 1 R ?_
 revert h
 cases d0:decide (48<(i.1.length:Int))
 refine JF λh=>Jy R<|Js<|Jp<|Je [2,1,2,1,1,2,1] R<|Jd3 R U33 R Z31 ?_
 have bi:=bn.stp (T3 f d M)
 refine Jb3 R I31 (bi.ld 0 R R)<|Jn 1 R<|Jw3 (κ:=aD) (E:=(Ep.own E6 2)) 12 [10] (parts:=[(0,.tmp 94)]) (cells:=[.slice af i.2.1.length aj]) (xs:=([i.2.1]:List (List Int))) R Y31 bT R (Je4 ⟨_,_,R,c1⟩) λdK dQ ex b8 K cK=>Tv<|Ob h λaA ds h=>Jy3 (κ:=b8) (E:=(Ep.own E6 2)) 8 [12] R Y31 bT R (bl.stp<|T4 f d M K) cK.src (cZ R) ds R λam ag ey aR N cL=>Tv<|Jd3 R U33 R Z31<|Ju3 (κ:=aR) 7 (off:=0) (vc:=[.slice am aA.length ag]) (cs':=[.slice am aA.length ag,.slice Q c.2.2.2.length S]) R Z31 R (bi.stp<|K.tr N) R λez O bj=>Tv<|Jd<|Ja [2,1,2,1,1,2,1] R<|Jd3 R U33 R Z31<|Jb3 R I31 (bj.ld 1 R R)<|Jn 1 R<|Jw3 (κ:=aR) (E:=(Ep.own E6 2)) 13 [11] (parts:=[(0,.tmp 100)]) (cells:=[.slice ah i.2.2.1.length ao]) (xs:=([i.2.2.1]:List (List Int))) R Y31 bT R (Je4 ⟨_,_,R,(c2.stp<|T3 K N O)⟩) λdL dO eA cb P cN=>Tv<|Ob h λaP dh h=>Jy3 (κ:=cb) (E:=(Ep.own E6 2)) 9 [13] R Y31 bT R (bm.stp<|T7 f d M K N O P) cN.src (cZ R) dh R λaI aH eB aS ab cO=>Tv<|Jd3 R U33 R Z31<|Ju3 (κ:=aS) 7 (off:=1) (vc:=[.slice aI aP.length aH]) (cs':=[.slice am aA.length ag,.slice aI aP.length aH]) R Z31 R (bj.stp<|P.tr ab) R λeD ac cP=>Tv<|Jo<|Jz<|Jp<|Jf3 R ?_
 cases h
 exact Jz1 λa ha=>⟨k,_,Ja3 _,⟨aS,(i.1,((IntKind.i64.wrap<|c.2.1+1):Int),aA,aP),ap,aq,am,ag,aI,aH,R,(T10 o f d M K N O P ab ac).wk R,(c0.stp<|T6 K N O P ab ac),(cL.stp<|T4 O P ab ac),(cO.stp ac),cP,aM⟩,(ha.mm R)⟩
 refine JT λh=>Jx R<|Je [2,1,2] R<|Jf R (Ji4 [.slice none 0 0,.slice none 0 0] R)<|Jh4 (κ:=aD) 5 R Z33 R (bg.stp<|T7 n j m o f d M) R λew ch cJ=>Tv<|Jb 1 R<|Ju<|Jw<|Ja1<|Jw<|Jw ?_
 cases h
 obtain rfl:=Option.some.inj aM
 have h:=yL bA
 refine Ja1<|Jq2<|Jw<|Ja2 (l:=[.cell 10 33,.tmp 11]) V68 (ca R cJ I33 Z33 R<|Jp2 R R) R ?_
 cases h
 exact⟨aD,none,0,none,0,R,(hE.stp<|T12 G C u q n j m o f d M ch),Ow.nil,Ow.nil⟩
 rintro _ eF ⟨aT,H,a5,a9,ai,ar,ak,au,rfl,aY,dW,cT,cU,cV,rfl⟩
 have h:=yI bA
 refine Jp<|Je [1,1,2] R<|Jb4 tv R (Jc4 (haE cV.cells) I33 Z33 R)<|Jh4 (κ:=aT) 5 R Z33 R (bg.stp<|T4 n j m aY) R λeE aG cQ=>Tv<|Jb 1 R<|Ju<|Ja2 (l:=[.cell 10 33,.tmp 11]) V68 (ca R cQ I33 Z33 R<|Jp2 R R) R ?_
 cases h
 exact⟨(λb=>ren [(8,2),(9,3)]<|aT b),ai,ar,ak,au,R,((hE.stp<|T9 G C u q n j m aY aG).map (ren [(8,2),(9,3)]) R R),((cT.stp aG).map (ren [(8,2),(9,3)]) R R),((cU.stp aG).map (ren [(8,2),(9,3)]) R R)⟩
theorem pX {p0:Sig}{a1 aj}{p1:(List Clause)}(bc:Rd Clause.rp κ w 0 a1 aj p1){r:Machine×Bool}(h:fE p0 p1=some r):Ret Tryz.prog 20 [.agg #[vi p0.In,vi p0.Out],.slice a1 p1.length aj] w (λv w'=>∃(κ':Col) (af:Option Addr) (ah:Nat) (ag:Option Addr) (ai:Nat),v= .tuple #[.agg #[.slice af r.1.Next.length ah,.slice ag r.1.Out.length ai],.bool r.2]/\Ent κ w κ' w'/\Oc (Ep.own E6 2) 37 κ' w' 2 af ah r.1.Next/\Oc (Ep.own E6 2) 37 κ' w' 3 ag ai r.1.Out):=by
 unfold fE at h
 refine Jk3 κ F20 R N20 R λhE=>Je [1,1,2] R<|Js3 (κ:=κ) 2 R λbO w1 ao y a0=>Tv<|Jt3 (κ:=ao) 3 R X33 R λbP cg av x z=>Tv<|Jb 1 R<|Je [1,2,1,2,2,2,1,1,2] R ?_
 have aa:=a0.stp x
 refine Jb4 tv R (Jc4 (haE aa.cells) I28 Z28 R)<|Jn 1 R<|Ob h λJ bd h=>Jr3 R C51 (mu (κ:=Mk av) (p0:=p0) (Ji3<|bc.stp<|y.tr x) bd) ?_
 rintro _ b4 ⟨bW,bw,bt,bL,ar,rfl,aJ,aS,aU⟩
 obtain⟨an,i,ae⟩:=Ji aJ 4 R
 refine Tv<|Jn 3 R<|Jt3 (κ:=an) 8 R X71 R λbQ cd C a aY=>Tv<|Jh4 (κ:=C) 8 R Z71 R aY R λak c W=>Tv<|Jb 1 R<|Jq<|Je3 R ?_
 revert h
 cases bU:(!J.2)
 refine JF λh=>Jy R<|Js<|Jp<|Je [1,1,1,2,2,2,2,1,1,2,2] R ?_
 have X:=aa.stp (T3 i a c)
 refine Jb4 tv R (Jc4 (haE X.cells) I28 Z28 R)<|Jb4 tv R (Jc4 (haE W.cells) I71 Z71 R) ?_
 obtain⟨ap,m,bk⟩:=kB C ak 6
 obtain⟨aq,n,bl⟩:=kB ap ak 7
 have Y:=Sl.st bl ((aU.mx Pair.no127 ae R (R:4+3=7)).stp (T3 a c m)).rdc
 refine Ob h λal be h=>?_
 have Z:=(Sl.st bk ((aS.mx (cD (bX _) _) ae R (R:4+2=6)).stp (a.tr c)).rdc).stp n
 refine Jr3 R C65 (pW (κ:=λb=>mp [] 1<|aq b) (p0:=p0) (p1:=J.1) (Jl2 Z (mp [] 1) R R) (Jl2 Y (mp [] 1) R R) be) ?_
 rintro _ cf ⟨b0,bu,bA,bz,bB,bG,br,rfl,aL,a2,a3,a4⟩
 obtain⟨au,o,H,bm⟩:=Jj aL 9 R
 refine Tv<|Jn 4 R<|Jt3 (κ:=au) 14 R X75 R λbR ch D d a5=>Tv<|Jh4 (κ:=D) 14 R Z75 R a5 R λI e a6=>Tv<|Jb 2 R<|Jq<|Je3 R ?_
 revert h
 cases bV:(!al.2.2)
 refine JF λh=>Jy R<|Js<|Jp<|Je [1,2,1,2,2,2,2,1,1,2,2] R<|Jb4 tv R (Jc4 (haE a6.cells) I75 Z75 R)<|Jn 1 R ?_
 obtain⟨aw,p,bn⟩:=kB D I 11
 obtain⟨ax,q,bo⟩:=kB aw I 12
 obtain⟨ay,s,bp⟩:=kB ax I 13
 refine Ob h λK bf h=>Jr3 R C66 (qt (κ:=λb=>mp [] 1<|ay b) (p0:=al.1) (Jl2 ((Sl.st bn ((a2.mx (bX _) H R (R:9+2=11)).stp (d.tr e)).rdc).stp (q.tr s)) (mp [] 1) R R) (Jl2 ((Sl.st bo ((a3.mxz bm H R (R:9+3=12)).stp (T3 d e p)).rdc).stp s) (mp [] 1) R R) (Jl2 (Sl.st bp ((a4.mx Pair.no127 H R (R:9+4=13)).stp (T4 d e p q)).rdc) (mp [] 1) R R) bf) ?_
 rintro _ cj ⟨b1,bD,bK,bI,bv,bE,bH,bJ,bF,rfl,aM,a8,a9,ba,bb⟩
 obtain⟨az,u,F,bj⟩:=Jj aM 15 R
 refine Tv<|Jn 4 R<|Jt3 (κ:=az) 21 R X79 R λbM b2 A f aN=>Tv<|Jh4 (κ:=A) 21 R Z79 R aN R λb3 g P=>Tv<|Jb 2 R<|Jq<|Je3 R ?_
 revert h
 cases bS:(!K.2.2)
 refine JF λh=>Jy R<|Js<|Jp<|Je [1,1,1,1] R<|Jb4 tv R (Jc4 (haE P.cells) I79 Z79 R)<|Ob h λck bg h=>?_
 have Q:=(a8.mx (bX _) F R (R:15+2=17)).stp (f.tr g)
 have S:=(a9.mx (cD (bX _) _) F R (R:15+3=18)).stp (f.tr g)
 have T:=(ba.mx (bX _) F R (R:15+4=19)).stp (f.tr g)
 refine Jr3 R C67 (tt (κ:=Mk A) (p0:=K.1) (Ji3 Q.rdc) (Ji3 S.rdc) (Ji3 T.rdc) bg) ?_
 rintro _ b6 ⟨bY,bq,bx,bC,bs,rfl,aI,aP,aQ⟩
 obtain⟨am,t,ac⟩:=Ji aI 22 R
 refine Tv<|?_
 have U:=aP.mx (bX _) ac R (R:22+2=24)
 refine Jt3 (κ:=am) 26 R X85 R λbN b7 B j aR=>Tv<|Jh4 (κ:=B) 26 R Z85 R aR R λb8 k V=>Tv<|Jd<|Jq<|Je [2,1,2,1,2] R<|Jd3 R U85 R Z37<|Jb3 R I37 (V.ld 0 R R)<|Ob h λbi ab h=>Jc3 R U.rdc ab U37 Z2<|Jb3 R I2 ((U.stp<|j.tr k).rdc.gInt ab)<|Jb 1 R ?_
 revert h
 cases bT:(bi !=0)
 have M:=(T14 m n o d e p q s u f g t j k)
 have N:=(T12 o d e p q s u f g t j k)
 have E:=(T3 t j k)
 refine JF λh=>Jy R<|Js<|Jp<|Je [1,1,1,2,2,1,1,2,2,1,2] R<|Jb4 tv R (Jc4 (haE (X.stp M).cells) I28 Z28 R)<|Jb4 tv R (Jc4 (haE (W.stp M).cells) I71 Z71 R)<|Jb4 tv R (Jc4 (haE (P.stp E).cells) I79 Z79 R)<|Jn 1 R<|Jd3 R U85 R Z37<|Jb3 R I37 (V.ld 1 R R)<|Ob h λcl bh h=>Jr3 R C68 (sb (κ:=Mk B) (p0:=p0) (p1:=J.1) (p2:=K.1) (Ji3<|Z.stp N) (Ji3<|Y.stp N) (Ji3 (Q.stp E).rdc) (Ji3 (S.stp E).rdc) (Ji3 (T.stp E).rdc) (Ji3 ((bb.mxz bj F R (R:15+5=20)).stp (T5 f g t j k)).rdc) (Ji3 ((aQ.mx (bX _) ac R (R:22+3=25)).stp (j.tr k)).rdc) bh) ?_
 rintro _ cb ⟨bZ,aH,aE,aF,aG,rfl,aK,aV,aW⟩
 obtain⟨L,O,ad⟩:=Ji aK 27 R
 refine Tv<|Jn 2 R<|Jh4 (κ:=L) 3 R Z33 R (z.stp<|i.tr<|a.tr<|c.tr<|m.tr<|n.tr<|o.tr<|d.tr<|e.tr<|p.tr<|q.tr<|s.tr<|u.tr<|f.tr<|g.tr<|t.tr<|j.tr<|k.tr O) R λcc G aX=>Tv<|Jb 1 R<|Ju<|Ja2 (l:=[.cell 4 33,.tmp 5]) V20 (ca R aX I33 Z33 R<|Jp2 R R) R ?_
 cases h
 exact⟨(λb=>ren [(29,2),(30,3)]<|L b),aH,aE,aF,aG,R,((hE.stp<|y.tr<|x.tr<|i.tr<|a.tr<|c.tr<|m.tr<|n.tr<|o.tr<|d.tr<|e.tr<|p.tr<|q.tr<|s.tr<|u.tr<|f.tr<|g.tr<|t.tr<|j.tr<|k.tr<|O.tr G).map (ren [(29,2),(30,3)]) R R),(((aV.mx (cD (bX _) _) ad R (R:27+2=29)).stp G).map (ren [(29,2),(30,3)]) R R),(((aW.mx (cD (bX _) _) ad R (R:27+3=30)).stp G).map (ren [(29,2),(30,3)]) R R)⟩
 refine JT λh=>Jx R<|Je [2,1,2] R<|Jf R (Ji4 [.slice none 0 0,.slice none 0 0] R)<|Jh4 (κ:=B) 3 R Z33 R (z.stp<|i.tr<|a.tr<|c.tr<|m.tr<|n.tr<|o.tr<|d.tr<|e.tr<|p.tr<|q.tr<|s.tr<|u.tr<|f.tr<|g.tr<|t.tr<|j.tr k) R λb9 aB aT=>Tv<|Jb 1 R<|Ju<|Jw<|Ja2 (l:=[.cell 4 33,.tmp 5]) V20 (ca R aT I33 Z33 R<|Jp2 R R) R ?_
 cases h
 exact⟨B,none,0,none,0,R,(hE.stp<|y.tr<|x.tr<|i.tr<|a.tr<|c.tr<|m.tr<|n.tr<|o.tr<|d.tr<|e.tr<|p.tr<|q.tr<|s.tr<|u.tr<|f.tr<|g.tr<|t.tr<|j.tr<|k.tr aB),Ow.nil,Ow.nil⟩
 refine JT λh=>Jx R<|Je [2,1,2] R<|Jf R (Ji4 [.slice none 0 0,.slice none 0 0] R)<|Jh4 (κ:=A) 3 R Z33 R (z.stp<|T14 i a c m n o d e p q s u f g) R λb5 aA aO=>Tv<|Jb 1 R<|Ju<|Jw<|Ja2 (l:=[.cell 4 33,.tmp 5]) V20 (ca R aO I33 Z33 R<|Jp2 R R) R ?_
 cases h
 exact⟨A,none,0,none,0,R,(hE.stp<|y.tr<|x.tr<|i.tr<|a.tr<|c.tr<|m.tr<|n.tr<|o.tr<|d.tr<|e.tr<|p.tr<|q.tr<|s.tr<|u.tr<|f.tr<|g.tr aA),Ow.nil,Ow.nil⟩
 refine JT λh=>Jx R<|Je [2,1,2] R<|Jf R (Ji4 [.slice none 0 0,.slice none 0 0] R)<|Jh4 (κ:=D) 3 R Z33 R (z.stp<|T8 i a c m n o d e) R λci aD a7=>Tv<|Jb 1 R<|Ju<|Jw<|Ja2 (l:=[.cell 4 33,.tmp 5]) V20 (ca R a7 I33 Z33 R<|Jp2 R R) R ?_
 cases h
 exact⟨D,none,0,none,0,R,(hE.stp<|T11 y x i a c m n o d e aD),Ow.nil,Ow.nil⟩
 refine JT λh=>Jx R<|Je [2,1,2] R<|Jf R (Ji4 [.slice none 0 0,.slice none 0 0] R)<|Jh4 (κ:=C) 3 R Z33 R (z.stp<|T3 i a c) R λce aC aZ=>Tv<|Jb 1 R<|Ju<|Jw<|Ja2 (l:=[.cell 4 33,.tmp 5]) V20 (ca R aZ I33 Z33 R<|Jp2 R R) R ?_
 cases h
 exact⟨C,none,0,none,0,R,(hE.stp<|T6 y x i a c aC),Ow.nil,Ow.nil⟩
theorem oH {p0:Sig}{m o k n}{p1:Machine}{a2 z}{p2:(List Clause)}(af:Rd (Rp.sl (Rp.int .i64)) κ w 0 m o p1.Next) (ag:Rd (Rp.sl (Rp.int .i64)) κ w 0 k n p1.Out) (ah:Rd Clause.rp κ w 0 a2 z p2){r:(List (List Int))×(List Pair)×Bool}(h:iM p0 p1 p2=some r):Ret Tryz.prog 71 [.agg #[vi p0.In,vi p0.Out],.agg #[.slice m p1.Next.length o,.slice k p1.Out.length n],.slice a2 p2.length z] w (λv w'=>∃(κ':Col) (t:Option Addr) (x:Nat) (u:Option Addr) (y:Nat),v= .tuple #[.slice t r.1.length x,.slice u r.2.1.length y,.bool r.2.2]/\Ent κ w κ' w'/\Oc (Ep.own E6 2) 37 κ' w' 2 t x r.1/\Oc Pair.ep127 127 κ' w' 3 u y r.2.1):=by
 unfold iM at h
 refine Jk3 κ F71 R N71 R λhE=>Je [1,1,2,2,2] R<|Js3 (κ:=κ) 2 R λao w1 C f ab=>Tv<|Js3 (κ:=C) 3 R λap aC H e ae=>Tv<|Jb 3 R<|Je [1,2,1,2,2,2,1,1,2] R ?_
 have p:=ab.stp e
 refine Jb4 tv R (Jc4 (haE p.cells) I28 Z28 R)<|Jn 1 R<|Ob h λA ai h=>Jr3 R C51 (mu (κ:=Mk H) (p0:=p0) (Ji3<|ah.stp<|f.tr e) ai) ?_
 rintro _ aw ⟨au,ak,am,an,al,rfl,T,V,W⟩
 obtain⟨B,d,q⟩:=Ji T 4 R
 refine Tv<|Jn 3 R<|Jt3 (κ:=B) 8 R X71 R λaq ax g a X=>Tv<|Jh4 (κ:=g) 8 R Z71 R X R λay c Y=>Tv<|Jb 1 R<|Jq<|Je3 R ?_
 revert h
 cases ar:(!A.2)
 have i:=(T5 f e d a c)
 refine JF λh=>Jy R<|Js<|Jp<|Je [1,1,1,1,2,2,2,2,2,2] R<|Jb4 tv R (Jc4 (haE (p.stp<|T3 d a c).cells) I28 Z28 R)<|Jb4 tv R (Jc4 (haE (ae.stp<|T3 d a c).cells) I33 Z33 R)<|Jb4 tv R (Jc4 (haE Y.cells) I71 Z71 R)<|Ob h λaD aj h=>Jr3 R C146 (rW (κ:=Mk g) (p0:=p0) (p1:=p1) (p2:=A.1) (Ji3<|af.stp i) (Ji3<|ag.stp i) (Ji3 ((V.mx (cD (bX _) _) q R (R:4+2=6)).stp (a.tr c)).rdc) (Ji3 ((W.mx Pair.no127 q R (R:4+3=7)).stp (a.tr c)).rdc) aj) ?_
 rintro _ aB ⟨av,K,L,S,O,rfl,U,ac,ad⟩
 obtain⟨G,J,s⟩:=Ji U 9 R
 refine Tv<|Jb 6 R<|Ju<|Ja2 (l:=[.tmp 6,.tmp 7,.tmp 8]) V71 (Jp2 R<|Jp2 R<|Jp2 R R) R ?_
 cases h
 exact⟨(λb=>ren [(11,2),(12,3)]<|G b),K,L,S,O,R,((hE.stp<|T6 f e d a c J).map (ren [(11,2),(12,3)]) R R),((ac.mx (cD (bX _) _) s R (R:9+2=11)).map (ren [(11,2),(12,3)]) R R),((ad.mx Pair.no127 s R (R:9+3=12)).map (ren [(11,2),(12,3)]) R R)⟩
 refine JT λh=>Jx R<|Je [1,1,2,2,2] R<|Jx3 (κ:=g) (E:=(Ep.own E6 2)) 9 R Y31 bT R λQ N az D I Z=>Tv<|Jx3 (κ:=D) (E:=Pair.ep127) 10 R Y69 cA R λM P aA F j aa=>Tv<|Jb 3 R<|Ju<|Jw<|Ja2 (l:=[.tmp 6,.tmp 7,.tmp 8]) V71 (Jp2 R<|Jp2 R<|Jp2 R R) R ?_
 cases h
 exact⟨(λb=>ren [(9,2),(10,3)]<|F b),Q,N,M,P,R,((hE.stp<|T7 f e d a c I j).map (ren [(9,2),(10,3)]) R R),((Z.stp j).map (ren [(9,2),(10,3)]) R R),(aa.map (ren [(9,2),(10,3)]) R R)⟩
theorem qp {p0:Sig}{G C F D}{p1:Machine}{a2 O}{p2:(List Clause)}(ax:Rd (Rp.sl (Rp.int .i64)) κ w 0 G C p1.Next) (ay:Rd (Rp.sl (Rp.int .i64)) κ w 0 F D p1.Out) (az:Rd Clause.rp κ w 0 a2 O p2){r:(List Int)}(h:kb p0 p1 p2=some r):Ret Tryz.prog 72 [.agg #[vi p0.In,vi p0.Out],.agg #[.slice G p1.Next.length C,.slice F p1.Out.length D],.slice a2 p2.length O] w (Pvs E6 2 κ w r):=by
 unfold kb at h
 refine Jk3 κ F72 R N72 R λhE=>Je [1,1,2] R<|Js3 (κ:=κ) 2 R λaU w1 T j an=>Tv<|Js3 (κ:=T) 3 R λaV ba W f au=>Tv<|Jb 1 R<|Je [1,2] R<|Jx3 (κ:=W) (E:=E6) 4 R Y37 a8 R λaf ad be S e aj=>Tv<|Jb 1 R<|Je [1,1,2,1,2,2,2,2,2,2,2] R<|Jb4 tv R (Jc4 (haE (an.stp<|f.tr e).cells) I28 Z28 R)<|Jb4 tv R (Jc4 (haE (au.stp e).cells) I33 Z33 R)<|Jn 1 R<|Ob h λQ aG h=>Jr3 R C71 (oH (κ:=Mk S) (p0:=p0) (p1:=p1) (Ji3<|ax.stp<|T3 j f e) (Ji3<|ay.stp<|T3 j f e) (Ji3<|az.stp<|T3 j f e) aG) ?_
 rintro _ P ⟨a0,aT,aP,aR,ar,rfl,ah,ak,al⟩
 obtain⟨t,A,K⟩:=Ji ah 5 R
 refine Tv<|?_
 have H:=al.mx Pair.no127 K R (R:5+3=8)
 refine Jb 7 R<|Jq<|Je3 R<|Ob h λN aE aA=>?_
 clear h
 refine Jx1 (λL w'=>∃κ',∃s:(List Int)×Int,∃o q,L=[(7,.slice o s.1.length q)]/\Stp [4] t P κ' w'/\Oc E6 2 κ' w' 4 o q s.1/\N=eg s) ?_ ?_
 refine Jv<|Jp3 [8,9,10] (λk E L w'=>∃κ',∃c:(List Int)×Int,∃i g,L=(7,.slice i c.1.length g)::(11,vi c.2)::E/\Stp [4] t P κ' w'/\Oc E6 2 κ' w' 4 i g c.1/\bU (eT Q) k c=some N) ⟨_,_,⟨t,((([]:List Int):(List Int)),(0:Int)),af,ad,R,Jj3,(aj.stp A),aE⟩,(KM R)⟩ ?_
 rintro k _ aJ ⟨V,c,i,g,rfl,m,x,h⟩
 rcases k with _ | k
 cases h
 obtain⟨a4,h,I⟩:=BI h;unfold eT at h
 refine Jq<|Jg3 [2,2,2,2,2,2,2] 2 R<|Ob h λM h aB=>Jf4 [7,8,9,10,11] 27 M V aJ [(2,2),(3,2),(4,2),(5,2),(6,2)] [] tv ?_ ?_
 revert h
 cases aX:Q.2.2
 refine JF λh=>Jn 5 R ?_
 cases h
 exact Jg4 tv R
 refine JT λh=>Jn 2 R<|Jn3 R U69 R R<|Jn 2 R ?_
 cases h
 exact Jg4 tv R
 rintro _ a9 _ ⟨rfl,z,d⟩
 have h:=aB
 refine Jd ?_
 revert h
 cases aY:M
 refine JF λh=>Jy R<|Jc1<|Jt<|Jt ?_
 cases h
 have h:=I
 refine Jb1 ?_
 cases h
 exact Jw1 _ ⟨z,(c.1,c.2),i,g,R,(m.tr d).wk R,(x.stp d),R⟩<|KM R
 refine JT λh=>Jx R<|Js<|Jp<|Jq<|Jv<|Jg3 [2,2,2,2,1,1,2] 3 R<|Ob h λaL J h=>Jc3 R H.rdc J U69 Z127 ?_
 obtain⟨aW,aF,aD⟩:=((H.stp (m.tr d)).rdc).gSt J
 obtain⟨aN,a5,aO,a6,rfl,av,aw⟩:=Pair.un aF
 refine Jb4 tv R (Jc4 (haE aD) I127 Z127 R)<|Ob h λaM aH h=>Jr3 R C147 (qa (κ:=Mk z) (p1:=aL) (Ji3 ((ak.mx (cD (bX _) _) K R (R:5+2=7)).stp (m.tr d)).rdc) (Ji3 av) (Ji3 aw) aH) ?_
 rintro _ aK ⟨a1,rfl,ai⟩
 obtain⟨u,v,a3⟩:=Ji ai 9 R
 refine Tv<|Jb 1 R<|Ob h λy h aC=>Jo3 [8,9,10,11] (λE L w'=>∃κ' n p,L=(7,.slice n y.length p)::E/\Stp [4] u aK κ' w'/\Oc E6 2 κ' w' 4 n p y) ?_ ?_
 revert h
 cases aZ:decide (0<=aM)
 refine JF λh=>Jy R<|Js ?_
 cases h
 exact Jw1 _ ⟨u,i,g,R,Jj3,(x.stp<|d.tr v)⟩<|KM R
 refine JT λh=>Jx R<|Jh3 [2,2,1,1,2] 2 R<|Jd4 (κ:=u) 11 [c.2] R Y37 a8 R λaQ aS bc Y B ap=>Tv<|Ob h λbf aI h=>Jy3 (κ:=Y) (E:=E6) 4 [] R Y37 a8 R (x.stp<|T3 d v B) (Sl.srcP (co _) ap.rdc) bZ aI R λag ae bd Z ac aq=>Tv<|Jc 1 R ?_
 cases h
 exact Jw1 _ ⟨Z,ag,ae,R,(B.tr ac).wk R,aq⟩<|KM R
 rintro _ bb ⟨X,n,p,rfl,ab,ao⟩
 have h:=aC
 refine Jz<|Jp<|Jf3 R ?_
 cases h
 exact Jz1 λa ha=>⟨k,_,Ja3 _,⟨X,(y,((IntKind.i64.wrap<|c.2+1):Int)),n,p,R,(T4 m d v ab).wk R,ao,I⟩,(ha.mm R)⟩
 rintro _ a7 ⟨U,s,o,q,rfl,aa,am,rfl⟩
 have h:=yI aA
 refine Jp<|Je3 R<|Ju<|Ja2 (l:=[.tmp 6]) V72 (Jp2 R R) R ?_
 cases h
 exact⟨(λb=>ren [(4,2)]<|U b),o,q,R,((hE.stp<|T5 j f e A aa).map (ren [(4,2)]) R R),(am.map (ren [(4,2)]) R R)⟩
theorem qq {p0:Sig}{f i e g}{p1:Machine}{a2 p}{p2:(List Clause)}(A:Rd (Rp.sl (Rp.int .i64)) κ w 0 f i p1.Next) (B:Rd (Rp.sl (Rp.int .i64)) κ w 0 e g p1.Out) (C:Rd Clause.rp κ w 0 a2 p p2){r:Bool}(h:kg p0 p1 p2=some r):Ret Tryz.prog 22 [.agg #[vi p0.In,vi p0.Out],.agg #[.slice f p1.Next.length i,.slice e p1.Out.length g],.slice a2 p2.length p] w (Pvb κ w r):=by
 unfold kg at h
 refine Jk3 κ F22 R N22 R λhE=>Je [1,1,2] R<|Js3 (κ:=κ) 2 R λQ w1 q c z=>Tv<|Js3 (κ:=q) 3 R λS ad t b n=>Tv<|Jb 1 R<|Je [1,1,2,1,2,2,2,2,2,2,2] R ?_
 have o:=z.stp b
 refine Jb4 tv R (Jc4 (haE o.cells) I28 Z28 R)<|Jb4 tv R (Jc4 (haE n.cells) I33 Z33 R)<|Jn 1 R<|Ob h λI E h=>?_
 have j:=A.stp (c.tr b)
 have k:=B.stp (c.tr b)
 have m:=C.stp (c.tr b)
 refine Jr3 R C71 (oH (κ:=Mk t) (p0:=p0) (p1:=p1) (Ji3 j) (Ji3 k) (Ji3 m) E) ?_
 rintro _ H ⟨X,K,N,O,M,rfl,x,T,U⟩
 obtain⟨d,a,Z⟩:=Ji x 4 R
 refine Tv<|Jb 7 R<|Jg3 [2,2,1,1,2,1,2,2,2,2] 2 R<|Ob h λG h D=>Jf4 [6] 26 G d H [(2,1),(3,1),(4,2),(5,1),(6,2),(7,2),(8,2)] [(9,2)] tv ?_ ?_
 revert h
 cases W:I.2.2
 refine JF λh=>Jz3 R<|Jz3 R<|Jn 1 R<|Jz3 R<|Jn 3 R ?_
 cases h
 exact Jg4 tv R
 refine JT λh=>Jb4 tv R (Jc4 (haE (o.stp a).cells) I28 Z28 R)<|Jb4 tv R (Jc4 (haE (n.stp a).cells) I33 Z33 R)<|Jn 1 R<|Ob h λae F h=>Jr3 R C72 (qp (κ:=Mk d) (p0:=p0) (p1:=p1) (Ji3<|j.stp a) (Ji3<|k.stp a) (Ji3<|m.stp a) F) ?_
 rintro _ ab ⟨Y,L,P,rfl,y,V⟩
 obtain⟨J,u,aa⟩:=Ji y 8 R
 refine Tv<|Jn3 R U37 R R<|Jn 2 R ?_
 cases h
 exact Jv1 _ tv ⟨R,_,u.wk R⟩<|KM R
 rintro _ ac _ ⟨rfl,s,v⟩
 have h:=D
 refine Jb 1 R<|Ju<|Ja2 (l:=[.tmp 6]) V22 (Jp2 R R) R ?_
 cases h
 exact⟨s,R,(hE.stp<|T4 c b a v)⟩
theorem qm {ab aw}{p0:(List Int)}(ak:Rd (Rp.int .u8) κ w 0 ab aw p0){r:Bool}(h:lL p0=some r):Ret Tryz.prog 4 [.slice ab p0.length aw] w (Pvb κ w r):=by
 unfold lL at h
 refine Jk3 κ F4 R N4 R λhE=>Je3 R<|Jq<|Jg3 [2,1] 1 R<|Ob h λbG bm h=>Jr3 R C8 (wH (κ:=Mk κ) (Ji3 ak) bm) ?_
 rintro _ w1 ⟨cI,rfl,aS⟩
 obtain⟨O,y,cR⟩:=Ji aS 2 R
 refine Tv<|Jd ?_
 revert h
 cases cB:bG
 refine JF λh=>Jy R<|Js<|Jp<|Jg3 [2,1,2] 1 R<|Ob h λbH bn h=>Jr3 R C9 (vI (κ:=λb=>mp [] 1<|O b) (Jl2 (ak.stp y) (mp [] 1) R R) bn) ?_
 rintro _ cS ⟨cE,bY,cd,cg,rfl,aO,aX,aY⟩
 obtain⟨aC,G,bw,bI⟩:=Jj aO 4 R
 refine Tv<|Jb 1 R<|Je [2,1,1] R<|Jf R (Ji4 [vi 1,vi 1] R)<|Jt3 (κ:=aC) 8 R X28 R λch c3 N u aZ=>Tv<|Jh4 (κ:=N) 8 R Z28 R aZ R λc4 v a0=>Tv<|Jd<|Jg3 [2,1,2] 1 R<|Ob h λde bo h=>Jr3 R C18 (pD (κ:=λb=>mp [(7,2)] 0<|N b) (p0:=bH) (Jl2 ((aX.mx bI).stp (u.tr v)) (mp [(7,2)] 0) R R) (((aY.mx bw R (R:4+3=7)).stp (u.tr v)).map (mp [(7,2)] 0) R R) bo) ?_
 rintro _ c5 ⟨cJ,bU,bS,rfl,aT,a1,co⟩
 obtain⟨aE,A,bx⟩:=Ji aT 9 R
 refine Tv<|?_
 have ac:=a1.mx Clause.no67 bx R (R:9+3=12)
 refine Jb 1 R<|Jg3 [2,1,2,2,2,1,1,2] 1 R<|Ob h λaB bp h=>Jr3 R C19 (mg (κ:=Mk aE) (Ji3 ac.rdc) bp) ?_
 rintro _ c6 ⟨cK,ca,bT,b2,bW,rfl,aU,a2,a3⟩
 obtain⟨aF,x,al⟩:=Ji aU 13 R
 refine Tv<|Jn 3 R<|Jt3 (κ:=aF) 17 R X33 R λci c7 P p a4=>Tv<|Jh4 (κ:=P) 17 R Z33 R a4 R λc8 q a5=>Tv<|Jb 1 R<|Jg3 [2,1,2,2,2,1,1,2] 1 R<|Ob h λo bq h=>?_
 have ad:=ac.stp (T3 x p q)
 refine Jr3 R C19 (mg (κ:=Mk P) (Ji3 ad.rdc) bq) ?_
 rintro _ c9 ⟨cL,b5,cc,ce,bV,rfl,aV,a6,a7⟩
 obtain⟨aG,n,am⟩:=Ji aV 18 R
 refine Tv<|?_
 have ae:=a6.mx (cD (bX _) _) am R (R:18+2=20)
 have af:=a7.mx (cD (bX _) _) am R (R:18+3=21)
 refine Jn 3 R<|Jt3 (κ:=aG) 22 R X33 R λcj da Q i a8=>Tv<|Jh4 (κ:=Q) 22 R Z33 R a8 R λdb j B=>Tv<|Jb 1 R<|Je [1,2,1,2,2,2,1,1,2] R ?_
 have z:=a0.stp (T7 A x p q n i j)
 refine Jb4 tv R (Jc4 (haE z.cells) I28 Z28 R)<|Jn 1 R<|Ob h λJ br h=>?_
 have ag:=ad.stp (T3 n i j)
 refine Jr3 R C20 (pX (κ:=Mk Q) (p0:=(⟨1,1⟩:Sig)) (Ji3 ag.rdc) br) ?_
 rintro _ dc ⟨cM,b3,b1,ar,b7,rfl,aW,a9,ba⟩
 obtain⟨aH,d,an⟩:=Ji aW 23 R
 refine Tv<|?_
 have ah:=a9.mx (cD (bX _) _) an R (R:23+2=25)
 have ai:=ba.mx (cD (bX _) _) an R (R:23+3=26)
 refine Jn 3 R<|Jt3 (κ:=aH) 27 R X33 R λcf dd E a bb=>Tv<|Jh4 (κ:=E) 27 R Z33 R bb R λaA c aj=>Tv<|Jb 1 R<|Jq<|Jg3 [2,2,2,2,2,2,1,2,2,2,2,1,1,1,1,2,2,2,2,2,2,2,2,2,2] 2 R<|Ob h λap h bl=>Jf4 [4,5,8,9,10,11] 52 ap E aA [(2,2),(3,2),(4,2),(5,2),(6,1),(7,2),(8,2),(9,2),(10,2),(11,1),(12,1),(13,1),(14,1),(15,2),(16,2),(17,2)] [(18,2),(19,2),(20,2),(21,2),(22,2),(23,2),(24,2)] tv ?_ ?_
 revert h
 cases cp:aB.2
 refine JF λh=>Jn 4 R<|Jz3 R<|Jn 4 R<|Jz3 R<|Jz3 R<|Jz3 R<|Jz3 R<|Jn 3 R ?_
 cases h
 exact Jg4 tv R
 refine JT λh=>Jn 3 R<|Ob h λao h bc=>Jf4 [4,5,6,8,9,10,11,36] 44 ao E aA [(5,2),(6,1),(7,2),(8,2),(9,2)] [(10,2),(11,1),(12,1),(13,1),(14,1),(15,2),(16,2),(17,2)] tv ?_ ?_
 revert h
 cases cq:(!o.2)
 refine JF λh=>Jd3 R U33 R Z31<|Jb3 R I31 ((B.stp<|T3 d a c).ld 0 R R)<|Jn3 R U31 R R<|Jn 2 R ?_
 cases h
 exact Jg4 tv R
 refine JT λh=>Jn 1 R<|Jz3 R<|Jn 3 R ?_
 cases h
 exact Jg4 tv R
 rintro _ bE _ ⟨rfl,K,t⟩
 have h:=bc
 refine Jn 1 R<|Ob h λbz h bd=>Jf4 [4,5,8,9,10,11,36] 51 bz K bE [(11,1),(12,1),(13,1),(14,1),(15,2),(16,2)] [(17,2)] tv ?_ ?_
 revert h
 cases cr:ao
 have S:=(T9 p q n i j d a c t)
 have T:=(T6 i j d a c t)
 have U:=(T4 d a c t)
 refine JF λh=>Jb4 tv R (Jc4 (haE (z.stp U).cells) I28 Z28 R)<|Jb4 tv R (Jc4 (haE (a5.stp<|T7 n i j d a c t).cells) I33 Z33 R)<|Jb4 tv R (Jc4 (haE (B.stp U).cells) I33 Z33 R)<|Ob h λdf bs h=>Jr3 R C21 (oz (κ:=Mk K) (p0:=(⟨1,1⟩:Sig)) (p1:=aB.1) (p2:=o.1) (Ji3 ((a2.mx (cD (bX _) _) al R (R:13+2=15)).stp S).rdc) (Ji3 ((a3.mx (cD (bX _) _) al R (R:13+3=16)).stp S).rdc) (Ji3 (ae.stp T).rdc) (Ji3 (af.stp T).rdc) bs) ?_
 rintro _ cT ⟨cC,rfl,aN⟩
 obtain⟨bJ,aI,cN⟩:=Ji aN 28 R
 refine Tv<|Jn 2 R ?_
 cases h
 exact Jv1 _ tv ⟨R,_,aI.wk R⟩<|KM R
 refine JT λh=>Jz3 R<|Jz3 R<|Jz3 R<|Jz3 R<|Jn 2 R ?_
 cases h
 exact Jg4 tv R
 rintro _ cU _ ⟨rfl,bK,aJ⟩
 have h:=bd
 refine Jn 1 R ?_
 cases h
 exact Jv1 _ tv ⟨R,_,(t.tr aJ).wk R⟩<|KM R
 rintro _ ax _ ⟨rfl,M,e⟩
 have h:=bl
 refine Jn 1 R<|Ob h λaq h be=>Jf4 [4,5,8,9,10,11] 59 aq M ax [(19,2),(20,2),(21,2),(22,2),(23,2),(24,2)] [] tv ?_ ?_
 revert h
 cases cs:ap
 refine JF λh=>Jn 2 R<|Ob h λbA h bf=>Jf4 [4,5,8,9,10,11,53] 58 bA M ax [(21,2),(22,2),(23,2)] [(24,2)] tv ?_ ?_
 revert h
 cases ct:o.2
 refine JF λh=>Jn 3 R ?_
 cases h
 exact Jg4 tv R
 refine JT λh=>Jn 3 R ?_
 cases h
 exact Jg4 tv R
 rintro _ cV _ ⟨rfl,bL,aK⟩
 have h:=bf
 refine Jn 1 R ?_
 cases h
 exact Jv1 _ tv ⟨R,_,aK.wk R⟩<|KM R
 refine JT λh=>Jn 6 R ?_
 cases h
 exact Jg4 tv R
 rintro _ bF _ ⟨rfl,C,f⟩
 have h:=be
 refine Jd ?_
 revert h
 cases cu:aq
 refine JF λh=>Jy R<|Js<|Jp<|Jq<|Jg3 [2,2,1,1,2,1,2,2] 2 R<|Ob h λau h bg=>Jf4 [4,8,9,10,11] 67 au C bF [(2,1),(3,1),(4,2),(5,1),(6,2),(7,2)] [] tv ?_ ?_
 revert h
 cases cv:o.2
 refine JF λh=>Jz3 R<|Jz3 R<|Jn 1 R<|Jz3 R<|Jn 2 R ?_
 cases h
 exact Jg4 tv R
 have F:=(T5 d a c e f)
 have V:=(T7 i j d a c e f)
 refine JT λh=>Jb4 tv R (Jc4 (haE (z.stp F).cells) I28 Z28 R)<|Jb4 tv R (Jc4 (haE (B.stp F).cells) I33 Z33 R)<|Jn 1 R<|Ob h λdg bt h=>Jr3 R C22 (qq (κ:=Mk C) (p0:=(⟨1,1⟩:Sig)) (p1:=o.1) (Ji3 (ae.stp V).rdc) (Ji3 (af.stp V).rdc) (Ji3 (ag.stp F).rdc) bt) ?_
 rintro _ cW ⟨cF,rfl,aP⟩
 obtain⟨bM,aL,cO⟩:=Ji aP 28 R
 refine Tv<|Jn 2 R ?_
 cases h
 exact Jv1 _ tv ⟨R,_,aL.wk R⟩<|KM R
 rintro _ cX _ ⟨rfl,s,k⟩
 have h:=bg
 refine Jd ?_
 revert h
 cases cw:au
 refine JF λh=>Jy R<|Js<|Jp<|Jq<|Js1 (κ:=s) [8,22,27] none [(0,2),(1,2),(2,2),(3,2),(4,2),(5,2),(6,0),(7,2),(8,0),(9,0),(10,1),(11,2),(12,2),(13,2),(14,2),(15,2),(16,2),(17,2),(18,2),(19,2),(20,0),(21,0),(22,1),(23,2),(24,2),(25,2),(26,2),(27,2),(28,2)] [] (by kernel_rfl) (by kernel_rfl) λay m=>Jn 3 R<|Ob h λav h bh=>Jf4 [4,9,10] 83 av s ay [(3,2),(4,2),(5,2),(6,0),(7,2),(8,0),(9,0),(10,1),(11,2),(12,2),(13,2),(14,2),(15,2)] [(16,2),(17,2),(18,2),(19,2),(20,0),(21,0),(22,1),(23,2),(24,2),(25,2),(26,2),(27,2),(28,2)] (Cl.refl _ _ _) ?_ ?_
 revert h
 cases cx:(!J.2)
 refine JF λh=>Jn 2 R<|Ob h λbB h bi=>Jf4 [4,9,10,70] 82 bB s ay [(5,2),(6,0),(7,2),(8,0),(9,0),(10,1),(11,2),(12,2),(13,2),(14,2)] [(15,2)] (Cl.refl _ _ _) ?_ ?_
 revert h
 cases cy:o.2
 refine JF λh=>Jn 1 R<|Ja4 R<|Jn 1 R<|Ja4 R<|Ja4 R<|Jz3 R<|Jn 4 R ?_
 cases h
 exact Jv1 _ (Cl.refl _ _ _) ⟨R,_,Jj3⟩<|KM R
 have W:=(T7 d a c e f k m)
 have X:=(T6 a c e f k m)
 refine JT λh=>Jd3 R U33 R Z31<|Jg R (Jc2 I31 R R<|hvC ((B.stp W).ld 0 R R) R)<|Jn3 R U31 R R<|Jg R (Jc4 (haC (z.stp W).cells R) I28 Z28 R)<|Jg R (Jc4 (haC (aj.stp<|T4 e f k m).cells R) I33 Z33 R)<|Ob h λdh bu h=>Jr3 R C23 (nZ (κ:=Mk s) (p0:=(⟨1,1⟩:Sig)) (p1:=J.1) (Ji3 (ah.stp X).rdc) (Ji3 (ai.stp X).rdc) bu) ?_
 rintro _ cY ⟨cG,b9,b0,cb,b6,rfl,aQ,ck,cl⟩
 obtain⟨bN,H,cP⟩:=Ji aQ 28 R
 refine⟨(H.cl R),Jf R (qU U33 R I31 R R R)<|Jn3 R U31 R R<|Jn 2 R ?_⟩
 cases h
 exact Jv1 _ (H.cl R) ⟨R,_,H.wk R⟩<|KM R
 rintro _ cZ _ ⟨rfl,bO,Z⟩
 have h:=bi
 refine Jn 1 R ?_
 cases h
 exact Jv1 _ (Z.cl R) ⟨R,_,Z.wk R⟩<|KM R
 refine JT λh=>Jn 3 R<|Ja4 R<|Jn 1 R<|Ja4 R<|Ja4 R<|Jz3 R<|Jn 5 R ?_
 cases h
 exact Jv1 _ (Cl.refl _ _ _) ⟨R,_,Jj3⟩<|KM R
 rintro _ az _ ⟨rfl,D,g⟩
 have h:=bh
 refine Jn 1 R<|Ob h λbD h bj=>Ju1 [(17,2),(18,2),(19,2),(20,0),(21,0),(22,1),(23,2),(24,2),(25,2),(26,2),(27,2)] [(28,2)] (λL w'=>L=[(95,.bool bD)]/\∃κ',Stp [] D az κ' w') (g.cl R) ?_ ?_
 revert h
 cases cz:av
 refine JF λh=>Jn 3 R<|Ob h λbC h bk=>Jf4 [84] 94 bC D az [(20,0),(21,0),(22,1),(23,2),(24,2),(25,2),(26,2)] [(27,2)] (g.cl R) ?_ ?_
 revert h
 cases cA:(!o.2)
 refine JF λh=>Ja4 R<|Ja4 R<|Jz3 R<|Jn 4 R ?_
 cases h
 exact Jv1 _ (g.cl R) ⟨R,_,Jj3⟩<|KM R
 have Y:=(T7 a c e f k m g)
 refine JT λh=>Jg R (Jc4 (haC (z.stp<|T7 d a c e f k m).cells R) I28 Z28 R)<|Jg R (Jc4 (haC (aj.stp<|T4 e f k m).cells R) I33 Z33 R)<|Ob h λdi bv h=>Jr3 R C23 (nZ (κ:=Mk D) (p0:=(⟨1,1⟩:Sig)) (p1:=J.1) (Ji3 (ah.stp Y).rdc) (Ji3 (ai.stp Y).rdc) bv) ?_
 rintro _ c0 ⟨cH,b8,b4,bR,bZ,rfl,aR,cm,cn⟩
 obtain⟨bP,I,cQ⟩:=Ji aR 28 R
 refine⟨((g.tr I).cl R),Jf R (qU U33 R I31 R R R)<|Jn3 R U31 R R<|Jn 2 R ?_⟩
 cases h
 exact Jv1 _ ((g.tr I).cl R) ⟨R,_,I.wk R⟩<|KM R
 rintro _ c1 _ ⟨rfl,bQ,aa⟩
 have h:=bk
 refine Jn 1 R ?_
 cases h
 exact Jv1 _ ((g.tr aa).cl R) ⟨R,_,aa.wk R⟩<|KM R
 refine JT λh=>Jn 3 R<|Ja4 R<|Ja4 R<|Jz3 R<|Jn 5 R ?_
 cases h
 exact Jv1 _ (g.cl R) ⟨R,_,Jj3⟩<|KM R
 rintro _ c2 _ ⟨rfl,aD,aM⟩
 have h:=bj
 refine Jn 1 R<|Jt1<|Jd<|Ju<|Ja2 (l:=[.tmp 2]) V4 (Jp2 R R) R ?_
 cases h
 exact⟨aD,R,(hE.stp<|y.tr<|G.tr<|u.tr<|v.tr<|A.tr<|x.tr<|p.tr<|q.tr<|n.tr<|i.tr<|j.tr<|d.tr<|a.tr<|c.tr<|e.tr<|f.tr<|k.tr<|m.tr<|g.tr aM)⟩
 refine JT λh=>Jx R<|Je3 R<|Ju<|Jw<|Ja2 (l:=[.tmp 2]) V4 (Jp2 R R) R ?_
 cases h
 exact⟨s,R,(hE.stp<|y.tr<|G.tr<|u.tr<|v.tr<|A.tr<|x.tr<|p.tr<|q.tr<|n.tr<|i.tr<|j.tr<|d.tr<|a.tr<|c.tr<|e.tr<|f.tr k)⟩
 refine JT λh=>Jx R<|Je3 R<|Ju<|Jw<|Ja2 (l:=[.tmp 2]) V4 (Jp2 R R) R ?_
 cases h
 exact⟨C,R,(hE.stp<|T16 y G u v A x p q n i j d a c e f)⟩
 refine JT λh=>Jx R<|Je3 R<|Ju<|Jw<|Ja2 (l:=[.tmp 2]) V4 (Jp2 R R) R ?_
 cases h
 exact⟨O,R,(hE.stp y)⟩
end Go.Proofs.YtleekpaohfpooaaGreat
