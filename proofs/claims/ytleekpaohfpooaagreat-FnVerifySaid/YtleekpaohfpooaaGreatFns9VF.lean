/- The walks, part 9. By program. -/
import Derived.Test.YtleekpaohfpooaaGreatFns8VF
set_option linter.unusedVariables false
set_option linter.unusedSimpArgs false
open Go.IntKind renaming wrap → bM
open Sum renaming inr → cb
namespace Go.Proofs.YtleekpaohfpooaaGreat
open Go Go.Wk Go.Proofs
set_option maxRecDepth 100000
set_option maxHeartbeats 1000000
variable {w:World}{κ:Col}
theorem kP {p0:Sig}{C G D F}{p1:Det}(v:Rd (Rp.sl (Rp.int .i64)) κ w 0 C G p1.Next) (ag:Rd Pair.rp κ w 0 D F p1.Pairs){r:Bool}(h:jU p0 p1=some r):Ret Tryz.prog 123 [.agg #[vi p0.In,vi p0.Out],.agg #[.slice C p1.Next.length G,.slice D p1.Pairs.length F]] w (Pvb κ w r):=by
 unfold jU at h
 refine Jk3 κ F123 R N123 R λx=>Je [1,1,2] R<|Js3 (κ:=κ) 2 R λaG w1 T j ae=>Tv<|Js3 (κ:=T) 3 R λaH a4 V g o=>Tv<|Jb 1 R<|Je [2,1,2,2] R<|Jd3 R U71 R Z31<|Jb3 R I31 (o.ld 0 R R)<|Jn3 R U31 R R<|Jb 1 R<|Jq<|Je [1,1,2,2,2,1,2,2] R ?_
 have J:=ae.stp g
 refine Jb4 tv R (Jc4 (haE J.cells) I28 Z28 R)<|Ob h λaz ap h=>Jr3 R C58 (iK (κ:=Mk V) (p0:=p0) ap) ?_
 rintro _ ax ⟨aO,rfl,Z⟩
 obtain⟨y,c,aT⟩:=Ji Z 4 R
 refine Tv<|Jn 2 R<|Ob h λO h ah=>Jf4 [2,3,5] 17 O y ax [(4,2),(5,1),(6,2),(7,2)] [] tv ?_ ?_
 revert h
 cases aK:(!az)
 refine JF λh=>Jn 1 R<|Ob h λa8 aq h=>Jr3 R C59 (de (κ:=Mk y) aq) ?_
 rintro _ a0 ⟨aP,rfl,aa⟩
 obtain⟨aC,X,aU⟩:=Ji aa 6 R
 refine Tv<|Jn 2 R ?_
 cases h
 exact Jv1 _ tv ⟨R,_,X.wk R⟩<|KM R
 refine JT λh=>Jn 1 R<|Jz3 R<|Jn 2 R ?_
 cases h
 exact Jg4 tv R
 rintro _ S _ ⟨rfl,n,d⟩
 have h:=ah
 refine Jd ?_
 revert h
 cases aL:O
 refine JF λh=>Jy R<|Js<|Jp<|Jq<|Je3 R ?_
 have aj:(p1.Next.length:Int)<=9223372036854775807:=v.len_le
 refine Ob h λQ an K=>?_
 clear h
 refine Jo3 [3,5] (λE L w'=>∃κ',L=E/\Stp [] n S κ' w'/\Q=cb ()) ?_ ?_
 refine Jv<|Jp3 [2,3,5] (λk E L w'=>∃κ' b,L=(6,vi b)::E/\Stp [] n S κ' w'/\0<=b/\Int.toNat ((p1.Next.length:Int)-b)=k/\cntM (kO p0 p1) k b ()=some Q) ⟨_,_,⟨n,0,R,Jj3,(by decide),(by simp),an⟩,(KM R)⟩ ?_
 rintro k _ a2 ⟨q,b,rfl,f,ak,aJ,h⟩
 rcases k with _ | k
 have p:=h;obtain⟨aw,h⟩:=cw (cb (Sum.inl ()):Bool⊕((Unit)⊕(Unit)))
 have i:decide (b<(p1.Next.length:Int))=false:=Jo2 (by omega)
 refine Jq<|Jg3 [2,2,1,2,2] 1 R<|Jd3 R U71 R Z31<|Jb3 R I31 ((o.stp<|T3 c d f).ld 0 R R)<|Jn3 R U31 R R<|Jb 1 R<|Jw2 R i<|Jc1<|Jt<|Jt ?_
 cases h
 have h:=p
 refine Jb1 ?_
 cases h
 exact Jw1 _ ⟨q,R,f.wk R,R⟩<|KM R
 obtain⟨aw,h,p⟩:=BI h;unfold kO at h
 have i:decide (b<(p1.Next.length:Int))=true:=Jn2 (by omega)
 refine Jq<|Jg3 [2,2,1,2,2] 1 R<|Jd3 R U71 R Z31 ?_
 have H:=o.stp (T3 c d f)
 refine Jb3 R I31 (H.ld 0 R R)<|Jn3 R U31 R R<|Jb 1 R<|Jv2 R i<|Js<|Jp<|Jq<|Jv<|Jq<|Js1 (κ:=q) [0,2,3] none [(0,2),(2,2),(1,0),(3,2),(4,0),(5,2),(6,0),(7,1),(8,2),(9,2),(10,2),(12,2),(15,2),(11,0),(13,2),(14,0),(16,1),(17,2),(18,2)] [] (by kernel_rfl) (by kernel_rfl) λa3 m=>Jd3 R U71 R Z31<|Jn 1 R ?_
 have I:=H.stp m
 refine Jg R (Jc2 I31 R R<|hvC (I.ld 0 R R) R)<|Ob h λaA M h=>Jc3 R v M U31 Z37 ?_
 have u:=v.stp (T6 j g c d f m)
 obtain⟨aE,aY,aI,al⟩:=u.gSl M
 refine Jg R (Jc2 I37 R R<|hvC al R)<|Jn3 R U37 R R<|Jg R (Jc4 (haC (J.stp<|T4 c d f m).cells R) I28 Z28 R)<|Ob h λaB ar h=>Jr3 R C120 (fh (κ:=Mk q) (p0:=p0) ar) ?_
 rintro _ ay ⟨aQ,rfl,ab⟩
 obtain⟨z,e,aV⟩:=Ji ab 6 R
 refine⟨(e.cl R),Jn 2 R<|Ob h λP h ai=>Jf4 [2,3,5,6] 43 P z ay [(10,2),(12,2),(15,2),(11,0),(13,2),(14,0),(16,1),(17,2),(18,2)] [] (e.cl R) ?_ ?_⟩
 revert h
 cases aM:((aA.length:Int) !=aB)
 refine JF λh=>Jd3 R U71 R Z31<|Jn 2 R<|Jg R (Jc2 I31 R R<|hvC (I.ld 0 R R) R)<|Ob h λa9 N h=>Jc3 R u N U31 Z37 ?_
 obtain⟨aF,aZ,af,am⟩:=u.gSl N
 refine Jg R (Jc2 I37 R R<|hvC am R)<|Ob h λba au h=>Jr3 R C61 (fW (κ:=Mk z) (Ji3<|af.stp e) au) ?_
 rintro _ a5 ⟨aR,rfl,ac⟩
 obtain⟨aD,t,aW⟩:=Ji ac 8 R
 refine⟨((e.tr t).cl R),Jn 2 R ?_⟩
 cases h
 exact Jv1 _ ((e.tr t).cl R) ⟨R,_,t.wk R⟩<|KM R
 refine JT λh=>Jn 3 R<|Ja4 R<|Jn 1 R<|Ja4 R<|Jz3 R<|Jn 2 R ?_
 cases h
 exact Jv1 _ (e.cl R) ⟨R,_,Jj3⟩<|KM R
 rintro _ a6 _ ⟨rfl,A,B⟩
 have h:=ai
 refine Jt1<|Jd ?_
 revert h
 cases aN:P
 refine JF λh=>Jy R<|Js<|Jz<|Jp<|Jf3 R ?_
 have ao:bM .i64 (b+1)=b+1:=wr1 ak (Jm2 i) aj
 rw[ao]
 have i:=Jm2 i
 cases h
 exact Jz1 λa ha=>⟨k,_,Ja3 _,⟨A,b+1,R,(T4 f m e B).wk R,by omega,by omega,p⟩,(ha.mm R)⟩
 refine JT λh=>Jx R<|Je3 R<|Ju<|Ja1<|Jw<|Jw ?_
 cases h
 obtain rfl:=Option.some.inj p
 have h:=yL K
 refine Ja1<|Jq2<|Jw<|Ja2 (l:=[.tmp 4]) V123 (Jp2 R R) R ?_
 cases h
 exact⟨A,R,(x.stp<|T8 j g c d f m e B)⟩
 rintro _ a1 ⟨U,rfl,s,rfl⟩
 have h:=yI K
 refine Jp<|Je [2,1,2,1,2] R<|Jd3 R U71 R Z69<|Jb3 R I69 ((o.stp<|T3 c d s).ld 1 R R)<|Jn 1 R<|Ob h λbb av h=>Jr3 R C133 (oI (κ:=Mk U) (Ji3<|ag.stp<|T5 j g c d s) av) ?_
 rintro _ a7 ⟨aS,rfl,ad⟩
 obtain⟨W,Y,aX⟩:=Ji ad 6 R
 refine Tv<|Jb 1 R<|Ju<|Ja2 (l:=[.tmp 4]) V123 (Jp2 R R) R ?_
 cases h
 exact⟨W,R,(x.stp<|T6 j g c d s Y)⟩
 refine JT λh=>Jx R<|Je3 R<|Ju<|Jw<|Ja2 (l:=[.tmp 4]) V123 (Jp2 R R) R ?_
 cases h
 exact⟨n,R,(x.stp<|T4 j g c d)⟩
theorem qO {bK bL bI bN}{p0:Arena}{a1 cA}{p1:(List Pair)}{p2:Int}(eb:Rd (Rp.int .i64) κ w 0 bK bL p0.Owner) (ec:Rd (Rp.sl (Rp.int .i64)) κ w 0 bI bN p0.Next) (ba:Rd Pair.rp κ w 0 a1 cA p1){r:Parity×(List Place)×Bool}(h:iJ p0 p1 p2=some r):Ret Tryz.prog 66 [.agg #[.slice bK p0.Owner.length bL,.slice bI p0.Next.length bN],.slice a1 p1.length cA,vi p2] w (λv w'=>∃(κ':Col) (cq:Option Addr) (cv:Nat) (cr:Option Addr) (cx:Nat) (cs:Option Addr) (cy:Nat) (ct:Option Addr) (cz:Nat),v= .tuple #[.agg #[.slice cq r.1.Arena.Owner.length cv,.slice cr r.1.Arena.Next.length cx,.slice cs r.1.Prio.length cy],.slice ct r.2.1.length cz,.bool r.2.2]/\Ent κ w κ' w'/\Oc E6 2 κ' w' 2 cq cv r.1.Arena.Owner/\Oc (Ep.own E6 2) 37 κ' w' 3 cr cx r.1.Arena.Next/\Oc E6 2 κ' w' 4 cs cy r.1.Prio/\Oc (Ep.fz Place.rp) 88 κ' w' 5 ct cz r.2.1):=by
 unfold iJ at h
 refine Jk3 κ F66 R N66 R λbb=>Je [1,1,2,2] R<|Js3 (κ:=κ) 2 R λe6 w1 cL V d0=>Tv<|Jt3 (κ:=cL) 3 R X79 R λe7 gn cV S a9=>Tv<|Jb 2 R<|Je [2,1,2,2] R<|Jd3 R U75 R Z37 ?_
 have aR:=d0.stp S
 refine Jb3 R I37 (aR.ld 0 R R)<|Jn3 R U37 R R<|Jb 1 R<|Jq<|Je [1,1,2,2,2,2,1,2,2,2,2,2,2,1,2,2] R<|Jb4 tv R (Jc4 (haE aR.cells) I75 Z75 R)<|Ob h λeT ey h=>?_
 have a6:=eb.stp (V.tr S)
 have a7:=ec.stp (V.tr S)
 refine Jr3 R C132 (oH (κ:=Mk cV) (p0:=p0) (Ji3 a6) (Ji3 a7) ey) ?_
 rintro _ eI ⟨fz,rfl,dp⟩
 obtain⟨bl,j,fG⟩:=Ji dp 4 R
 refine Tv<|Jn 2 R<|Ob h λcl h ed=>Jf4 [1,2,3,6,9] 32 cl bl eI [(4,2),(5,2),(6,1),(7,2),(8,2)] [(9,2),(10,2),(11,2),(12,2),(13,1),(14,2),(15,2)] tv ?_ ?_
 revert h
 cases fv:(!eT)
 refine JF λh=>Jn 2 R<|Ob h λgv ez h=>Jr3 R C133 (oI (κ:=Mk bl) (Ji3<|ba.stp<|T3 V S j) ez) ?_
 rintro _ f4 ⟨fB,rfl,dr⟩
 obtain⟨e0,c2,fH⟩:=Ji dr 6 R
 refine Tv<|Jn 2 R ?_
 cases h
 exact Jv1 _ tv ⟨R,_,c2.wk R⟩<|KM R
 refine JT λh=>Jn 2 R<|Jz3 R<|Jn 2 R ?_
 cases h
 exact Jg4 tv R
 rintro _ eN _ ⟨rfl,bo,p⟩
 have h:=ed
 refine Jn 1 R<|Ob h λcm h ee=>Jf4 [1,2,3,6] 39 cm bo eN [(10,2),(11,2),(12,2),(13,1),(14,2),(15,2)] [] tv ?_ ?_
 revert h
 cases fw:cl
 refine JF λh=>Jn 3 R<|Ob h λgw eA h=>Jr3 R C59 (de (κ:=Mk bo) eA) ?_
 rintro _ gk ⟨fE,rfl,du⟩
 obtain⟨e1,c3,fJ⟩:=Ji du 6 R
 refine Tv<|Jn 2 R ?_
 cases h
 exact Jv1 _ tv ⟨R,_,c3.wk R⟩<|KM R
 refine JT λh=>Jn 3 R<|Jz3 R<|Jn 2 R ?_
 cases h
 exact Jg4 tv R
 rintro _ gl _ ⟨rfl,bp,q⟩
 have h:=ee
 refine Jd ?_
 revert h
 cases fx:cm
 refine JF λh=>Jy R<|Js<|Jp<|Je [1,2] R<|Jx3 (κ:=bp) (E:=E6) 6 R Y37 bS R λdh di cC aY G d3=>Tv<|Jb 1 R<|Jq<|Je3 R ?_
 have eg:(p1.length:Int)<=9223372036854775807:=ba.len_le
 refine Ob h λcn em ef=>?_
 clear h
 refine Jo3 [1,2,3,6] (λE L w'=>∃κ',∃K:(List Int),∃am an,L=(10,.slice am K.length an)::E/\Stp [6] aY cC κ' w'/\Oc E6 2 κ' w' 6 am an K/\cn=cb K) ?_ ?_
 refine Jv<|Jp3 [1,2,3,6] (λk E L w'=>∃κ' s,∃ac:(List Int),∃aM aE,L=(10,.slice aM ac.length aE)::(11,vi s)::E/\Stp [6] aY cC κ' w'/\Oc E6 2 κ' w' 6 aM aE ac/\0<=s/\Int.toNat ((p1.length:Int)-s)=k/\cntM eK k s ac=some cn) ⟨_,_,⟨aY,0,(([]:List Int):(List Int)),dh,di,R,Jj3,d3,(by decide),(by simp),em⟩,(KM R)⟩ ?_
 rintro k _ gp ⟨br,s,ac,aM,aE,rfl,bF,b9,eh,fq,h⟩
 rcases k with _ | k
 have be:=h;obtain⟨eG,h⟩:=cw (cb (Sum.inl ac):(Parity×(List Place)×Bool)⊕(((List Int))⊕((List Int))))
 have ab:decide (s<(p1.length:Int))=false:=Jo2 (by omega)
 refine Jq<|Jg3 [2,2,2,2] 2 R<|Jn3 R U69 R R<|Jb 1 R<|Jw2 R ab<|Jc1<|Jt<|Jt ?_
 cases h
 have h:=be
 refine Jb1 ?_
 cases h
 exact Jw1 _ ⟨br,ac,aM,aE,R,bF.wk R,b9,R⟩<|KM R
 obtain⟨eG,h,be⟩:=BI h;unfold eK at h
 have ab:decide (s<(p1.length:Int))=true:=Jn2 (by omega)
 refine Jq<|Jg3 [2,2,2,2] 2 R<|Jn3 R U69 R R<|Jb 1 R<|Jv2 R ab<|Js<|Jp<|Jq<|Jv<|Jh3 [2,2,1,1,2] 2 R<|Jd4 (κ:=br) 7 [s] R Y37 bS R λfl e9 gq cX bG d5=>Tv<|Ob h λeU eB h=>Jy3 (κ:=cX) (E:=E6) 6 [] R Y37 bS R (b9.stp bG) (Sl.srcP (bY _) d5.rdc) bU eB R λdk dl gr cY c4 d6=>Tv<|Jc 1 R<|Jz<|Jp<|Jf3 R ?_
 have ep:bM .i64 (s+1)=s+1:=wr1 eh (Jm2 ab) eg
 rw[ep]
 have ab:=Jm2 ab
 cases h
 exact Jz1 λa ha=>⟨k,_,Ja3 _,⟨cY,s+1,eU,dk,dl,R,(T3 bF bG c4).wk R,d6,by omega,by omega,be⟩,(ha.mm R)⟩
 rintro _ eO ⟨cW,K,am,an,rfl,H,d4,rfl⟩
 have h:=yI ef
 refine Jp<|Jg3 [2,2,2,1,2] 2 R<|Jf R (Ji4 [vi p2,.slice am K.length an] R) ?_
 obtain⟨cZ,I,eZ⟩:=lr cW eO 6
 refine Jw3 (κ:=cZ) (E:=(Ep.fz Place.rp)) 7 [] (parts:=[(0,.tmp 55)]) (cells:=[vi p2,.slice am K.length an]) (xs:=([(⟨p2,K⟩:Place)]:List Place)) R Y80 kB R (Je4<|Place.mk_rel (x:=(⟨p2,K⟩:Place))<|Sl.z1<|Sl.st eZ d4.rdc) λdf dm gs c0 J d7=>Tv<|Jb 1 R<|Je [2,1,1] R<|Jf R (Ji4 [.slice none 0 0,.slice none 0 0,.slice none 0 0] R)<|Jt3 (κ:=c0) 8 R X79 R λbO gt au u d8=>Tv<|Jh4 (κ:=au) 8 R Z79 R d8 R λcD y d9=>Tv<|Jd<|Jq<|Je3 R<|Ob h λco en cf=>?_
 clear h
 refine Jo3 [6,13] (λE L w'=>∃κ',∃z:(List Place)×Int×(List Int)×(List<|List Int)×(List Int),∃aB ay aG aI aD av ar aC,L=(12,.slice aB z.1.length ay)::E/\Stp [7,8,9,10,11,12,16,19,20,21] au cD κ' w'/\Oc (Ep.fz Place.rp) 88 κ' w' 7 aB ay z.1/\Oc E6 2 κ' w' 9 aG aI z.2.2.1/\Oc (Ep.own E6 2) 37 κ' w' 10 aD av z.2.2.2.1/\Oc E6 2 κ' w' 11 ar aC z.2.2.2.2/\Bc κ' w' 8 bO 79 [.slice aG z.2.2.1.length aI,.slice aD z.2.2.2.1.length av,.slice ar z.2.2.2.2.length aC]/\co=cb z) ?_ ?_
 refine Jv<|Jp3 [1,3,6,13] (λk E L w'=>∃κ',∃c:(List Place)×Int×(List Int)×(List<|List Int)×(List Int),∃ai ag az aH ak ah aa Z,L=(12,.slice ai c.1.length ag)::(14,vi c.2.1)::E/\Stp [7,8,9,10,11,12,16,19,20,21] au cD κ' w'/\Oc (Ep.fz Place.rp) 88 κ' w' 7 ai ag c.1/\Oc E6 2 κ' w' 9 az aH c.2.2.1/\Oc (Ep.own E6 2) 37 κ' w' 10 ak ah c.2.2.2.1/\Oc E6 2 κ' w' 11 aa Z c.2.2.2.2/\Bc κ' w' 8 bO 79 [.slice az c.2.2.1.length aH,.slice ak c.2.2.2.1.length ah,.slice aa c.2.2.2.2.length Z]/\cu (eM p0 p1) k c=some co) ⟨_,_,⟨au,((([(⟨p2,K⟩:Place)]:List Place):(List Place)),(0:Int),(([]:List Int):(List Int)),(([]:List (List Int)):(List<|List Int)),(([]:List Int):(List Int))),df,dm,none,0,none,0,none,0,R,Jj3,(d7.stp<|u.tr y),Ow.nil,Ow.nil,Ow.nil,d9,en⟩,(KM R)⟩ ?_
 rintro k _ fP ⟨bg,c,ai,ag,az,aH,ak,ah,aa,Z,rfl,A,aO,bP,bQ,bR,bT,h⟩
 rcases k with _ | k
 cases h
 obtain⟨fL,h,bc⟩:=BI h;unfold eM at h
 refine Jq<|Jg3 [2,2,2,2] 2 R<|Jn3 R U80 R R<|Jb 1 R ?_
 revert h
 cases fr:decide (c.2.1<(c.1.length:Int))
 refine JF λh=>Jy R<|Jc1<|Jt<|Jt ?_
 cases h
 have h:=bc
 refine Jb1 ?_
 cases h
 exact Jw1 _ ⟨bg,(c.1,c.2.1,c.2.2.1,c.2.2.2.1,c.2.2.2.2),ai,ag,az,aH,ak,ah,aa,Z,R,A.wk R,aO,bP,bQ,bR,bT,R⟩<|KM R
 refine JT λh=>Jx R<|Js<|Jp<|Jq<|Jv<|Jg3 [2,2,2,1,1,1] 2 R<|Ob h λeV ch h=>Jc3 R aO.rdc ch U80 Z88 ?_
 obtain⟨fo,eo,ek⟩:=Ow.gZS aO ch
 obtain⟨e2,fM,rfl,ea⟩:=Place.un eo
 refine Jb4 tv R (Jc4 (haE ek) I88 Z88 R)<|Jt3 (κ:=bg) 12 R X88 R λe5 fQ bh g dA=>Tv<|Jh4 (κ:=bh) 12 R Z88 R dA R λfR i aP=>Tv<|Jd<|Jg3 [2,2,1,2,1,1,2] 1 R<|Jd3 R U88 R Z37<|Jb3 R I37 (aP.ld 1 R R)<|Jd3 R U88 R Z2<|Jb3 R I2 (aP.ld 0 R R)<|Ob h λeW eC h=>?_
 have bV:=ba.stp (T14 V S j p q G H I J u y A g i)
 have bW:=ea.stp (g.tr i)
 refine Jr3 R C134 (sx (κ:=Mk bh) (Ji3 bV) (Ji3 bW) eC) ?_
 rintro _ fS ⟨fy,fj,fg,rfl,dn,dB⟩
 obtain⟨cG,e,eE⟩:=Ji dn 13 R
 refine Tv<|Jb 1 R<|Je [1,2] R<|Jx3 (κ:=cG) (E:=E6) 16 R Y37 bS R λda dd cB aV d dC=>Tv<|Jb 1 R<|Jq<|Je3 R<|Ob h λcp el ca=>?_
 clear h
 refine Jo3 [1,3,6,13,14,15] (λE L w'=>∃κ',∃W:(List Place)×(List Int)×Int,∃aK aw a3 a2,L=(12,.slice aK W.1.length aw)::(17,.slice a3 W.2.1.length a2)::E/\Stp [7,16,19,20] aV cB κ' w'/\Oc (Ep.fz Place.rp) 88 κ' w' 7 aK aw W.1/\Oc E6 2 κ' w' 16 a3 a2 W.2.1/\cp=cb W) ?_ ?_
 refine Jv<|Jp3 [1,3,6,13,14,15,16] (λk E L w'=>∃κ',∃f:(List Place)×(List Int)×Int,∃aj af aA aL,L=(12,.slice aj f.1.length af)::(17,.slice aA f.2.1.length aL)::(18,vi f.2.2)::E/\Stp [7,16,19,20] aV cB κ' w'/\Oc (Ep.fz Place.rp) 88 κ' w' 7 aj af f.1/\Oc E6 2 κ' w' 16 aA aL f.2.1/\cu (fU p0 eV eW) k f=some cp) ⟨_,_,⟨aV,(c.1,(([]:List Int):(List Int)),(0:Int)),ai,ag,da,dd,R,Jj3,(aO.stp<|T4 g i e d),dC,el⟩,(KM R)⟩ ?_
 rintro k _ fV ⟨bj,f,aj,af,aA,aL,rfl,M,aQ,bX,h⟩
 rcases k with _ | k
 cases h
 obtain⟨fK,h,bd⟩:=BI h;unfold fU at h
 refine Jq<|Jg3 [2,2,1,2,1,2,1,2,2] 1 R<|Jd3 R U75 R Z31 ?_
 have b0:=aR.stp (T15 j p q G H I J u y A g i e d M)
 refine Jb3 R I31 (b0.ld 1 R R)<|Jd3 R U88 R Z2 ?_
 have b1:=aP.stp (T3 e d M)
 refine Jb3 R I2 (b1.ld 0 R R)<|Ob h λeX ci h=>Jc3 R a7 ci U31 Z37 ?_
 have a8:=a7.stp (T15 j p q G H I J u y A g i e d M)
 obtain⟨e3,fN,fp,ei⟩:=a8.gSl ci
 refine Jb3 R I37 ei<|Jn3 R U37 R R<|Jb 1 R ?_
 revert h
 cases fs:decide (f.2.2<(eX.length:Int))
 refine JF λh=>Jy R<|Jc1<|Jt<|Jt ?_
 cases h
 have h:=bd
 refine Jb1 ?_
 cases h
 exact Jw1 _ ⟨bj,(f.1,f.2.1,f.2.2),aj,af,aA,aL,R,M.wk R,aQ,bX,R⟩<|KM R
 refine JT λh=>Jx R<|Js<|Jp<|Jq<|Jv<|Je [2,1,2,1,2,1,2,2,1,2] R<|Jd3 R U75 R Z31<|Jb3 R I31 (b0.ld 1 R R)<|Jd3 R U88 R Z2<|Jb3 R I2 (b1.ld 0 R R)<|Ob h λgx cj h=>Jc3 R a8 cj U31 Z37 ?_
 obtain⟨e4,fO,b2,ej⟩:=a8.gSl cj
 refine Jb3 R I37 ej<|Jn 1 R<|Ob h λaU ck h=>Jc3 R b2 ck U37 Z2<|Jb3 R I2 (b2.gInt ck)<|Jb 1 R<|Jg3 [2,2,2,1,2] 3 R<|Ob h λcF eD h=>?_
 have b3:=(dB.mx (cc _) eE R (R:13+2=15)).stp (d.tr M)
 refine Jr3 R C135 (sw (κ:=Mk bj) (Ji3 aQ.rdc) (Ji3 b3.rdc) eD) ?_
 rintro _ eJ ⟨fA,rfl,dq⟩
 obtain⟨aq,T,fF⟩:=Ji dq 17 R
 refine Tv<|Jb 1 R<|Jq<|Je3 R<|Ob h λeH h ce=>Jo3 [1,3,6,13,14,15,16,17,18] (λE L w'=>∃κ',∃X:(List Place)×Int,∃aF aN,L=(12,.slice aF X.1.length aN)::(20,vi X.2)::E/\Stp [7,19,20] aq eJ κ' w'/\Oc (Ep.fz Place.rp) 88 κ' w' 7 aF aN X.1/\eH=cb X) ?_ ?_
 revert h
 cases ft:decide (cF<0)
 refine JF λh=>Jy R<|Js ?_
 cases h
 exact Jw1 _ ⟨aq,(f.1,cF),aj,af,R,Jj3,(aQ.stp T),R⟩<|KM R
 refine JT λh=>Jx R<|Jg3 [2,2,2] 1 R<|Jn3 R U80 R R<|Jb 1 R<|Jq<|Je3 R ?_
 revert h
 cases fu:decide (256<=(f.1.length:Int))
 refine JF λh=>Jy R<|Js<|Jp<|Jh3 [2,2,1,2,1,2,1,1,2] 2 R<|Jx3 (κ:=aq) (E:=E6) 19 R Y37 bS R λfi fb fZ cI aZ dJ=>Tv<|Jn 1 R<|Ob h λaS eq h=>Jy3 (κ:=cI) (E:=E6) 19 [] R Y37 bS R dJ (Sl.srcP (bY _) (b3.stp<|T.tr aZ).rdc) bU eq R λbJ bH eL cJ bz dK=>Tv<|Jf R (Ji4 [vi aU,.slice bJ aS.length bH] R) ?_
 obtain⟨cK,bA,eY⟩:=lr cJ eL 19
 refine Jw3 (κ:=cK) (E:=(Ep.fz Place.rp)) 20 [] (parts:=[(0,.tmp 112)]) (cells:=[vi aU,.slice bJ aS.length bH]) (xs:=([(⟨aU,aS⟩:Place)]:List Place)) R Y80 kB R (Je4<|Place.mk_rel (x:=(⟨aU,aS⟩:Place))<|Sl.z1<|Sl.st eY dK.rdc) λfc fa f0 cM bB dL=>Tv<|Ob h λeP er h=>Jy3 (κ:=cM) (E:=(Ep.fz Place.rp)) 7 [20] R Y80 kB R (aQ.stp<|T5 T aZ bz bA bB) dL.src (dG R) er R λc8 bk f1 cN c1 dM=>Tv<|Jc 1 R ?_
 cases h
 exact Jw1 _ ⟨cN,(eP,((f.1.length:Int):Int)),c8,bk,R,(T5 aZ bz bA bB c1).wk R,dM,R⟩<|KM R
 refine JT λh=>Jx R<|Je [2,1,1,2,2] R<|Jf R (Ji4 [.slice none 0 0,.slice none 0 0,.slice none 0 0] R)<|Jx3 (κ:=aq) (E:=(Ep.fz Place.rp)) 19 R Y80 kB R λc7 c6 fX bm bw dH=>Tv<|Jh4 (κ:=bm) 3 R Z79 R (a9.stp<|j.tr<|p.tr<|q.tr<|G.tr<|H.tr<|I.tr<|J.tr<|u.tr<|y.tr<|A.tr<|g.tr<|i.tr<|e.tr<|d.tr<|M.tr<|T.tr bw) R λfY bx dI=>Tv<|Jb 2 R<|Ju<|Jw<|Jq2 ?_
 cases h
 have h:=ce
 dsimp only[aft]at h
 refine Jw<|Ja1<|Jw<|Jw ?_
 cases h
 obtain rfl:=Option.some.inj bd
 have h:=yL ca
 refine Ja1<|Jq2<|Jw<|Ja1<|Jw<|Jw ?_
 cases h
 obtain rfl:=Option.some.inj bc
 have h:=yL cf
 refine Ja1<|Jq2<|Jw<|Ja2 (l:=[.cell 6 79,.tmp 7,.tmp 8]) V66 (cd R dI I79 Z79 R<|Jp2 R<|Jp2 R R) R ?_
 cases h
 exact⟨(λb=>ren [(19,5)]<|bm b),none,0,none,0,none,0,c7,c6,R,((bb.stp<|V.tr<|S.tr<|j.tr<|p.tr<|q.tr<|G.tr<|H.tr<|I.tr<|J.tr<|u.tr<|y.tr<|A.tr<|g.tr<|i.tr<|e.tr<|d.tr<|M.tr<|T.tr<|bw.tr bx).map (ren [(19,5)]) R R),Ow.nil,Ow.nil,Ow.nil,((dH.stp bx).map (ren [(19,5)]) R R)⟩
 rintro _ fW ⟨cH,X,aF,aN,rfl,bv,dF,rfl⟩
 have h:=yI ce
 refine Jp<|Jh3 [2,2,1,1,2] 2 R<|Jd4 (κ:=cH) 19 [X.2] R Y37 bS R λe8 fn f2 cO a0 dN=>Tv<|Ob h λeQ es h=>Jy3 (κ:=cO) (E:=E6) 16 [] R Y37 bS R (bX.stp<|T3 T bv a0) (Sl.srcP (bY _) dN.rdc) bU es R λc9 dj f3 cP bC dO=>Tv<|Jc 1 R<|Jz<|Jp<|Jf3 R ?_
 cases h
 exact Jz1 λa ha=>⟨k,_,Ja3 _,⟨cP,(X.1,eQ,((IntKind.i64.wrap<|f.2.2+1):Int)),aF,aN,c9,dj,R,(T5 M T bv a0 bC).wk R,(dF.stp<|a0.tr bC),dO,bd⟩,(ha.mm R)⟩
 rintro _ fT ⟨bi,W,aK,aw,a3,a2,rfl,B,dD,dE,rfl⟩
 have h:=yI ca
 refine Jp<|Jq<|Js1 (κ:=bi) [0,2,8,12] (some 13) [(0,2),(1,2),(3,2),(5,2),(2,0),(4,0),(6,0),(7,2),(8,0),(9,1),(10,1),(11,2),(12,2)] [(13,1)] (by kernel_rfl) (by kernel_rfl) λf5 m=>Jd3 R U79 R Z75<|Jd3 R U75 R Z37<|Jd3 R U75 R Z37<|Jd3 R U88 R Z2 ?_
 have b4:=bT.stp (T6 g i e d B m)
 refine Jg R (Jc2 I37 R R<|hvC (b4.ld 0 R R) R)<|Jg R (Jc2 I37 R R<|hvC ((aR.stp<|T16 j p q G H I J u y A g i e d B m).ld 0 R R) R) ?_
 have b5:=aP.stp (T4 e d B m)
 refine Jg R (Jc2 I2 R R<|hvC (b5.ld 0 R R) R)<|Ob h λeR cg h=>Jc3 R a6 cg U37 Z2<|Jg R (Jc2 I2 R R<|hvC ((a6.stp<|T16 j p q G H I J u y A g i e d B m).gInt cg) R)<|Jd4 (κ:=bi) 17 [eR] R Y37 bS R λff fe f6 cQ n dP=>⟨(n.cl R),Ob h λap et h=>Jy3 (κ:=cQ) (E:=E6) 9 [] R Y37 bS R (bP.stp<|T7 g i e d B m n) (Sl.srcP (bY _) dP.rdc) bU et R λal ao f7 aW C dQ=>⟨((n.tr C).cl R),Jd3 R U79 R Z75<|Jd3 R U75 R Z37<|Jt1<|Ju3 (κ:=aW) 8 (off:=0) (vc:=[.slice al ap.length ao]) (cs':=[.slice al ap.length ao,.slice ak c.2.2.2.1.length ah,.slice aa c.2.2.2.2.length Z]) R Z37 R (b4.stp<|n.tr C) R λf8 N dR=>Tv<|Jd<|Jq<|Js1 (κ:=aW) [8] (some 9) [(0,2),(1,2),(3,2),(2,0),(4,1),(5,1),(6,1),(7,2),(8,2)] [(9,1)] (by kernel_rfl) (by kernel_rfl) λf9 D=>Jd3 R U79 R Z75<|Jd3 R U75 R Z31<|Jn 1 R ?_⟩⟩
 have b6:=dR.stp D
 refine Jg R (Jc2 I31 R R<|hvC (b6.ld 1 R R) R)<|Ob h λcE eu h=>Jr3 R C136 (qv (κ:=Mk aW) (Ji3 (dE.stp<|T5 m n C N D).rdc) eu) ?_
 rintro _ ga ⟨fC,db,dg,rfl,ds,dS⟩
 obtain⟨cR,o,eF⟩:=Ji ds 18 R
 refine⟨(o.cl R),Jw3 (κ:=cR) (E:=(Ep.own E6 2)) 21 [20] (parts:=[(0,.tmp 136)]) (cells:=[.slice db cE.length dg]) (xs:=([cE]:List (List Int))) R Y31 bZ R (Je4 ⟨_,_,R,(dS.mx (cc _) eF R (R:18+2=20))⟩) λfm fk gb cS t dT=>⟨((o.tr t).cl R),Ob h λaT ev h=>Jy3 (κ:=cS) (E:=(Ep.own E6 2)) 10 [21] R Y31 bZ R (bQ.stp<|T12 g i e d B m n C N D o t) dT.src (dG R) ev R λaJ ax gc aX O dU=>⟨((T3 o t O).cl R),Jd3 R U79 R Z75<|Jd3 R U75 R Z31<|Jt1<|Ju3 (κ:=aX) 8 (off:=1) (vc:=[.slice aJ aT.length ax]) (cs':=[.slice al ap.length ao,.slice aJ aT.length ax,.slice aa c.2.2.2.2.length Z]) R Z31 R (b6.stp<|T3 o t O) R λgd U dV=>Tv<|Jd<|Js1 (κ:=aX) [8,12] (some 11) [(0,2),(2,2),(3,2),(5,2),(1,0),(4,0),(6,0),(7,1),(8,1),(9,1),(10,2)] [(11,1)] (by kernel_rfl) (by kernel_rfl) λge P=>Jd3 R U79 R Z37<|Jn 1 R<|Jd3 R U88 R Z37<|Jd3 R U88 R Z2 ?_⟩⟩⟩
 have b7:=dV.stp P
 refine Jg R (Jc2 I37 R R<|hvC (b7.ld 2 R R) R) ?_
 have b8:=b5.stp (T9 n C N D o t O U P)
 have bt:=(T13 e d B m n C N D o t O U P)
 refine Jg R (Jc2 I37 R R<|hvC (b8.ld 1 R R) R)<|Jg R (Jc2 I2 R R<|hvC (b8.ld 0 R R) R)<|Ob h λeS ew h=>Jr3 R C137 (sy (κ:=Mk aX) (Ji3<|bV.stp bt) (Ji3<|bW.stp bt) ew) ?_
 rintro _ gf ⟨fD,rfl,dt⟩
 obtain⟨cT,F,fI⟩:=Ji dt 22 R
 refine⟨(F.cl R),Jd4 (κ:=cT) 24 [eS] R Y37 bS R λfd fh gg cU Q dW=>⟨((F.tr Q).cl R),Ob h λbf ex h=>Jy3 (κ:=cU) (E:=E6) 11 [] R Y37 bS R (bR.stp<|g.tr<|i.tr<|e.tr<|d.tr<|B.tr<|m.tr<|n.tr<|C.tr<|N.tr<|D.tr<|o.tr<|t.tr<|O.tr<|U.tr<|P.tr<|F.tr Q) (Sl.srcP (bY _) dW.rdc) bU ex R λa4 a5 gh bn Y dX=>⟨((T3 F Q Y).cl R),Jd3 R U79 R Z37<|Jt1<|Ju3 (κ:=bn) 8 (off:=2) (vc:=[.slice a4 bf.length a5]) (cs':=[.slice al ap.length ao,.slice aJ aT.length ax,.slice a4 bf.length a5]) R Z37 R (b7.stp<|T3 F Q Y) R λgi ad dY=>Tv<|Jo<|Jz<|Jp<|Jf3 R ?_⟩⟩⟩
 cases h
 exact Jz1 λa ha=>⟨k,_,Ja3 _,⟨bn,(W.1,((IntKind.i64.wrap<|c.2.1+1):Int),ap,aT,bf),aK,aw,al,ao,aJ,ax,a4,a5,R,(A.tr<|g.tr<|i.tr<|e.tr<|d.tr<|B.tr<|m.tr<|n.tr<|C.tr<|N.tr<|D.tr<|o.tr<|t.tr<|O.tr<|U.tr<|P.tr<|F.tr<|Q.tr<|Y.tr ad).wk R,(dD.stp<|T14 m n C N D o t O U P F Q Y ad),(dQ.stp<|T11 N D o t O U P F Q Y ad),(dU.stp<|T6 U P F Q Y ad),(dX.stp ad),dY,bc⟩,(ha.mm R)⟩
 rintro _ gu ⟨bs,z,aB,ay,aG,aI,aD,av,ar,aC,rfl,bu,dv,dw,dx,dy,dz,rfl⟩
 have h:=yI cf
 refine Jp<|Je [1,2,1,2,2] R<|Jb4 tv R (Jc4 (haE dz.cells) I79 Z79 R)<|Jn 1 R<|Jh4 (κ:=bs) 3 R Z79 R (a9.stp<|T10 j p q G H I J u y bu) R λgj ae dZ=>Tv<|Jb 2 R<|Ju<|Ja2 (l:=[.cell 6 79,.tmp 7,.tmp 8]) V66 (cd R dZ I79 Z79 R<|Jp2 R<|Jp2 R R) R ?_
 cases h
 exact⟨(λb=>ren [(9,2),(10,3),(11,4),(7,5)]<|bs b),aG,aI,aD,av,ar,aC,aB,ay,R,((bb.stp<|T13 V S j p q G H I J u y bu ae).map (ren [(9,2),(10,3),(11,4),(7,5)]) R R),((dw.stp ae).map (ren [(9,2),(10,3),(11,4),(7,5)]) R R),((dx.stp ae).map (ren [(9,2),(10,3),(11,4),(7,5)]) R R),((dy.stp ae).map (ren [(9,2),(10,3),(11,4),(7,5)]) R R),((dv.stp ae).map (ren [(9,2),(10,3),(11,4),(7,5)]) R R)⟩
 refine JT λh=>Jx R<|Je [2,1,1,2,2] R<|Jf R (Ji4 [.slice none 0 0,.slice none 0 0,.slice none 0 0] R)<|Jx3 (κ:=bp) (E:=(Ep.fz Place.rp)) 6 R Y80 kB R λc5 dc gm bq bD d1=>Tv<|Jh4 (κ:=bq) 3 R Z79 R (a9.stp<|T4 j p q bD) R λgo bE d2=>Tv<|Jb 2 R<|Ju<|Jw<|Ja2 (l:=[.cell 6 79,.tmp 7,.tmp 8]) V66 (cd R d2 I79 Z79 R<|Jp2 R<|Jp2 R R) R ?_
 cases h
 exact⟨(λb=>ren [(6,5)]<|bq b),none,0,none,0,none,0,c5,dc,R,((bb.stp<|T7 V S j p q bD bE).map (ren [(6,5)]) R R),Ow.nil,Ow.nil,Ow.nil,((d1.stp bE).map (ren [(6,5)]) R R)⟩
theorem tN {aK aM aJ aI ay aL}{p0:Parity}{a1 a7}{p1:(List Int)}(b2:Rd (Rp.int .i64) κ w 0 aK aM p0.Arena.Owner) (b3:Rd (Rp.sl (Rp.int .i64)) κ w 0 aJ aI p0.Arena.Next) (b4:Rd (Rp.int .i64) κ w 0 ay aL p0.Prio) (ah:Rd (Rp.int .i64) κ w 0 a1 a7 p1){r:Parity×Bool}(h:m9 p0 p1=some r):Ret Tryz.prog 251 [.agg #[.slice aK p0.Arena.Owner.length aM,.slice aJ p0.Arena.Next.length aI,.slice ay p0.Prio.length aL],.slice a1 p1.length a7] w (λv w'=>∃(κ':Col) (a0:Option Addr) (a4:Nat) (a2:Option Addr) (a5:Nat) (a3:Option Addr) (a6:Nat),v= .tuple #[.agg #[.slice a0 r.1.Arena.Owner.length a4,.slice a2 r.1.Arena.Next.length a5,.slice a3 r.1.Prio.length a6],.bool r.2]/\Ent κ w κ' w'/\Oc E6 2 κ' w' 2 a0 a4 r.1.Arena.Owner/\Oc (Ep.own E6 2) 37 κ' w' 3 a2 a5 r.1.Arena.Next/\Oc E6 2 κ' w' 4 a3 a6 r.1.Prio):=by
 unfold m9 at h
 refine Jk3 κ F251 R N251 R λaT=>Je [1,1,2] R<|Js3 (κ:=κ) 2 R λcC w1 be t bO=>Tv<|Jt3 (κ:=be) 3 R X79 R λcD c7 bf p aS=>Tv<|Jb 1 R<|Jq<|Je [1,1,2,2,1,2,1,2,2] R ?_
 have ag:=bO.stp p
 refine Jb4 tv R (Jc4 (haE ag.cells) I79 Z79 R)<|Ob h λcu cg h=>?_
 have ae:=b2.stp (t.tr p)
 have af:=b3.stp (t.tr p)
 have N:=b4.stp (t.tr p)
 refine Jr3 R C138 (nS (κ:=Mk bf) (p0:=p0) (Ji3 ae) (Ji3 af) (Ji3 N) cg) ?_
 rintro _ cr ⟨cK,rfl,br⟩
 obtain⟨aA,c,cQ⟩:=Ji br 4 R
 refine Tv<|Jn 2 R<|Ob h λaY h b7=>Jf4 [1,2,4] 17 aY aA cr [(4,1),(5,2),(6,1),(7,2),(8,2)] [] tv ?_ ?_
 revert h
 cases cG:(!cu)
 refine JF λh=>Jb4 tv R (Jc4 (haE (ag.stp c).cells) I79 Z79 R)<|Jn 1 R<|Ob h λdg ch h=>Jr3 R C273 (sL (κ:=Mk aA) (p0:=p0) (Ji3<|ae.stp c) (Ji3<|af.stp c) (Ji3<|N.stp c) (Ji3<|ah.stp<|T3 t p c) ch) ?_
 rintro _ c5 ⟨cM,rfl,bt⟩
 obtain⟨cy,bj,cR⟩:=Ji bt 6 R
 refine Tv<|Jn 2 R ?_
 cases h
 exact Jv1 _ tv ⟨R,_,bj.wk R⟩<|KM R
 refine JT λh=>Jz3 R<|Jn 1 R<|Jz3 R<|Jn 2 R ?_
 cases h
 exact Jg4 tv R
 rintro _ ct _ ⟨rfl,A,f⟩
 have h:=b7
 refine Jd ?_
 revert h
 cases cH:aY
 refine JF λh=>Jy R<|Js<|Jp<|Jq<|Ob h λd aU h=>Ob h λe au h=>Jo3 [1,2,4] (λE L w'=>∃κ' i u y ab Z z x,L=(6,.pointer (some ⟨i,0,none⟩))::E/\Stp [6,8,9,11,12] A ct κ' w'/\Oc E6 2 κ' w' 6 u y (((⟨(⟨d,([]:List (List Int))⟩:Arena),e⟩:Parity).Arena).Owner)/\Oc (Ep.own E6 2) 37 κ' w' 7 ab Z (((⟨(⟨d,([]:List (List Int))⟩:Arena),e⟩:Parity).Arena).Next)/\Oc E6 2 κ' w' 8 z x ((⟨(⟨d,([]:List (List Int))⟩:Arena),e⟩:Parity).Prio)/\Bc κ' w' 9 i 79 [.slice u (((⟨(⟨d,([]:List (List Int))⟩:Arena),e⟩:Parity).Arena).Owner).length y,.slice ab (((⟨(⟨d,([]:List (List Int))⟩:Arena),e⟩:Parity).Arena).Next).length Z,.slice z ((⟨(⟨d,([]:List (List Int))⟩:Arena),e⟩:Parity).Prio).length x]) ?_ ?_
 refine WC.rxt (κ:=A) [2] none (by kernel_rfl) λc8 m=>Jq1 (fuel:=6) [(0,2),(1,2),(5,2),(2,0),(6,0)] (by kernel_rfl) (by kernel_rfl) R<|Jd3 R U79 R Z75<|Jd3 R U75 R Z37<|Jd3 R U79 R Z37 ?_
 have aQ:=ag.stp (T3 c f m)
 refine Jg R (Jc2 I37 R R<|hvC (aQ.ld 0 R R) R)<|Jg R (Jc2 I37 R R<|hvC (aQ.ld 2 R R) R)<|Jp1<|WA.fork2 (fuel:=5) 3 9 (by kernel_rfl) R ?_ ?_
 refine Jr3 R C131 (eb (κ:=Mk A) (Ji3<|ae.stp<|T3 c f m) aU) ?_
 rintro _ c9 ⟨cN,o,n,rfl,bu,bV⟩
 obtain⟨aC,g,cn⟩:=Ji bu 6 R
 refine⟨(g.cl R),?_⟩
 have aR:=bV.mx (cc _) cn R (R:6+2=8)
 refine Jp1<|Jq1 (fuel:=4) [(4,2)] (by kernel_rfl) (by kernel_rfl) R<|Jf R (Ji4 [.slice o d.length n,.slice none 0 0] R)<|Jp1<|WA.fork2 (fuel:=3) 7 9 (by kernel_rfl) R ?_ ?_
 refine Jr3 R C131 (eb (κ:=Mk aC) (Ji3<|N.stp<|T4 c f m g) au) ?_
 rintro _ da ⟨cO,q,s,rfl,bv,bW⟩
 obtain⟨bg,J,co⟩:=Ji bv 9 R
 exact⟨((g.tr J).cl R),Jp1<|Jq1 (fuel:=0) [(8,2),(9,1),(10,1)] (by kernel_rfl) (by kernel_rfl) R<|Jf R (Ji4 [.slice o d.length n,.slice none 0 0,.slice q e.length s] R)<|Jt3 (κ:=bg) 12 R X79 R λi db aD K bX=>⟨((T3 g J K).cl R),Jh4 (κ:=aD) 12 R Z79 R bX R λdc U bY=>⟨((T4 g J K U).cl R),Jp1<|Jr1 [] (by kernel_rfl) (by kernel_rfl) R<|Jo<|Jw1 _ ⟨(λb=>ren [(8,6),(11,8),(12,9)]<|aD b),i,o,n,none,0,q,s,R,(Jy2 ((T5 m g J K U).wk R) [(8,6),(11,8),(12,9)] R),((aR.stp<|T3 J K U).map (ren [(8,6),(11,8),(12,9)]) R R),Ow.nil,(((bW.mx (cc _) co R (R:9+2=11)).stp (K.tr U)).map (ren [(8,6),(11,8),(12,9)]) R R),(bY.map (ren [(8,6),(11,8),(12,9)]) R R)⟩<|KM R⟩⟩⟩
 refine Jt3 (κ:=aC) 9 R X79 R λi dd bh C b0=>⟨((g.tr C).cl R),Jp1<|Jq1 (fuel:=0) [(7,1),(8,2),(10,1)] (by kernel_rfl) (by kernel_rfl) R<|Jr3 R C131 (eb (κ:=Mk bh) (Ji3<|N.stp<|T5 c f m g C) au) ?_⟩
 rintro _ de ⟨cP,q,s,rfl,bw,b1⟩
 obtain⟨aE,M,cp⟩:=Ji bw 10 R
 exact⟨((T3 g C M).cl R),Jf R (Ji4 [.slice o d.length n,.slice none 0 0,.slice q e.length s] R)<|Jh4 (κ:=aE) 9 R Z79 R (b0.stp M) R λdf V bx=>⟨((T4 g C M V).cl R),Jp1<|Jr1 [] (by kernel_rfl) (by kernel_rfl) R<|Jo<|Jw1 _ ⟨(λb=>ren [(8,6),(12,8)]<|aE b),i,o,n,none,0,q,s,R,(Jy2 ((T5 m g C M V).wk R) [(8,6),(12,8)] R),((aR.stp<|T3 C M V).map (ren [(8,6),(12,8)]) R R),Ow.nil,(((b1.mx (cc _) cp R (R:10+2=12)).stp V).map (ren [(8,6),(12,8)]) R R),(bx.map (ren [(8,6),(12,8)]) R R)⟩<|KM R⟩⟩
 refine Jt3 (κ:=A) 6 R X79 R λi cT a9 B bz=>⟨(B.cl R),Jp1<|Jq1 (fuel:=0) [(3,1),(4,2),(7,1),(8,2),(10,1)] (by kernel_rfl) (by kernel_rfl) R<|Jr3 R C131 (eb (κ:=Mk a9) (Ji3<|ae.stp<|T4 c f m B) aU) ?_⟩
 rintro _ cU ⟨cI,o,n,rfl,bp,bA⟩
 obtain⟨ba,G,ck⟩:=Ji bp 7 R
 refine⟨((B.tr G).cl R),Jf R (Ji4 [.slice o d.length n,.slice none 0 0] R)<|Jr3 R C131 (eb (κ:=Mk ba) (Ji3<|N.stp<|T5 c f m B G) au) ?_⟩
 rintro _ cV ⟨cJ,q,s,rfl,bq,bB⟩
 obtain⟨aw,O,cl⟩:=Ji bq 10 R
 have aF:=(T3 B G O)
 exact⟨(aF.cl R),Jf R (Ji4 [.slice o d.length n,.slice none 0 0,.slice q e.length s] R)<|Jh4 (κ:=aw) 6 R Z79 R (bz.stp<|G.tr O) R λcW P bC=>⟨((aF.tr P).cl R),Jp1<|Jr1 [] (by kernel_rfl) (by kernel_rfl) R<|Jo<|Jw1 _ ⟨(λb=>ren [(9,6),(12,8),(6,9)]<|aw b),i,o,n,none,0,q,s,R,(Jy2 ((T5 m B G O P).wk R) [(9,6),(12,8),(6,9)] R),(((bA.mx (cc _) ck R (R:7+2=9)).stp (O.tr P)).map (ren [(9,6),(12,8),(6,9)]) R R),Ow.nil,(((bB.mx (cc _) cl R (R:10+2=12)).stp P).map (ren [(9,6),(12,8),(6,9)]) R R),(bC.map (ren [(9,6),(12,8),(6,9)]) R R)⟩<|KM R⟩⟩
 rintro _ a8 ⟨al,i,u,y,ab,Z,z,x,rfl,I,bQ,bR,bT,bU⟩
 refine Jp<|Jq<|Je3 R ?_
 have b8:(p1.length:Int)<=9223372036854775807:=ah.len_le
 refine Ob h λaZ ce b5=>?_
 clear h
 refine Jo3 [4,6] (λE L w'=>∃κ',∃aj:(List<|List Int),∃X Y,L=E/\Stp [7,9,12,13] al a8 κ' w'/\Oc (Ep.own E6 2) 37 κ' w' 7 X Y aj/\Bc κ' w' 9 i 79 [.slice u (((⟨(⟨d,([]:List (List Int))⟩:Arena),e⟩:Parity).Arena).Owner).length y,.slice X aj.length Y,.slice z ((⟨(⟨d,([]:List (List Int))⟩:Arena),e⟩:Parity).Prio).length x]/\aZ=cb aj) ?_ ?_
 refine Jv<|Jp3 [1,2,4,6] (λk E L w'=>∃κ' j,∃F:(List<|List Int),∃ad W,L=(7,vi j)::E/\Stp [7,9,12,13] al a8 κ' w'/\Oc (Ep.own E6 2) 37 κ' w' 7 ad W F/\Bc κ' w' 9 i 79 [.slice u (((⟨(⟨d,([]:List (List Int))⟩:Arena),e⟩:Parity).Arena).Owner).length y,.slice ad F.length W,.slice z ((⟨(⟨d,([]:List (List Int))⟩:Arena),e⟩:Parity).Prio).length x]/\0<=j/\Int.toNat ((p1.length:Int)-j)=k/\cntM (j7 p0 p1) k j F=some aZ) ⟨_,_,⟨al,0,(((⟨(⟨d,([]:List (List Int))⟩:Arena),e⟩:Parity).Arena).Next:(List<|List Int)),ab,Z,R,Jj3,bR,bU,(by decide),(by simp),ce⟩,(KM R)⟩ ?_
 rintro k _ cY ⟨az,j,F,ad,W,rfl,H,aN,aO,b9,cE,h⟩
 rcases k with _ | k
 have aq:=h;obtain⟨cq,h⟩:=cw (cb (Sum.inl F):(Parity×Bool)⊕(((List (List Int)))⊕((List (List Int)))))
 have D:decide (j<(p1.length:Int))=false:=Jo2 (by omega)
 refine Jq<|Jg3 [2,2,2,2] 2 R<|Jn3 R U37 R R<|Jb 1 R<|Jw2 R D<|Jc1<|Jt<|Jt ?_
 cases h
 have h:=aq
 refine Jb1 ?_
 cases h
 exact Jw1 _ ⟨az,F,ad,W,R,H.wk R,aN,aO,R⟩<|KM R
 obtain⟨cq,h,aq⟩:=BI h;unfold j7 at h
 have D:decide (j<(p1.length:Int))=true:=Jn2 (by omega)
 refine Jq<|Jg3 [2,2,2,2] 2 R<|Jn3 R U37 R R<|Jb 1 R<|Jv2 R D<|Js<|Jp<|Jq<|Jv<|Je [2,2,1,2,2,1,1,2] R<|Jd3 R U79 R Z75<|Jd3 R U75 R Z31<|Jb3 R I31 ((ag.stp<|T4 c f I H).ld 1 R R)<|Jn 1 R<|Ob h λdh aV h=>Jc3 R af aV U31 Z37 ?_
 obtain⟨cB,cS,bF,ca⟩:=(af.stp (T4 c f I H)).gSl aV
 refine Jb3 R I37 ca<|Ob h λdi ci h=>Jr3 R C131 (eb (κ:=Mk az) (Ji3 bF) ci) ?_
 rintro _ cs ⟨cL,bo,bm,rfl,bs,bG⟩
 obtain⟨ak,S,cm⟩:=Ji bs 10 R
 refine Tv<|Jb 1 R<|Jq<|Jg3 [2,2,2,1,2] 2 R<|Ob h λcv aW h=>Jc3 R ah aW U37 Z2 ?_
 have ap:=ah.stp (T7 t p c f I H S)
 refine Jb3 R I2 (ap.gInt aW)<|Jb 1 R<|Ob h λai h b6=>Jo3 [1,2,4,6,7] (λE L w'=>∃κ' ac aa,L=(8,.slice ac ai.length aa)::E/\Stp [13] ak cs κ' w'/\Oc E6 2 κ' w' 12 ac aa ai) ?_ ?_
 revert h
 cases cF:decide (0<=cv)
 refine JF λh=>Jy R<|Js ?_
 cases h
 exact Jw1 _ ⟨ak,bo,bm,R,Jj3,(bG.mx (cc _) cm R (R:10+2=12))⟩<|KM R
 refine JT λh=>Jx R<|Jh3 [2,2,2,1,1,2] 2 R<|Ob h λcx aX h=>Jc3 R ap aX U37 Z2<|Jb3 R I2 (ap.gInt aX)<|Jd4 (κ:=ak) 13 [cx] R Y37 bS R λbl bn c0 bc bi bI=>Tv<|Jc 1 R ?_
 cases h
 exact Jw1 _ ⟨(λb=>ren [(13,12)]<|bc b),bl,bn,R,(Jy2 (bi.wk R) [(13,12)] R),(bI.map (ren [(13,12)]) R R)⟩<|KM R
 rintro _ cZ ⟨bb,ac,aa,rfl,am,bH⟩
 have h:=b6
 refine Jp<|Ja [2,2,1,2,1,1,2,2,1] R<|Jd3 R U79 R Z75<|Jd3 R U75 R Z31 ?_
 have aP:=aO.stp (S.tr am)
 refine Jb3 R I31 (aP.ld 1 R R)<|Jn 1 R<|Jw3 (κ:=bb) (E:=(Ep.own E6 2)) 13 [12] (parts:=[(0,.tmp 54)]) (cells:=[.slice ac ai.length aa]) (xs:=([ai]:List (List Int))) R Y31 bZ R (Je4 ⟨_,_,R,bH⟩) λcA cz c1 bd an bJ=>Tv<|Ob h λav cj h=>Jy3 (κ:=bd) (E:=(Ep.own E6 2)) 7 [13] R Y31 bZ R (aN.stp<|T3 S am an) bJ.src (dG R) cj R λao ar c2 aB aG bK=>Tv<|Jd3 R U79 R Z75<|Jd3 R U75 R Z31<|Ju3 (κ:=aB) 9 (off:=1) (vc:=[.slice ao av.length ar]) (cs':=[.slice u (((⟨(⟨d,([]:List (List Int))⟩:Arena),e⟩:Parity).Arena).Owner).length y,.slice ao av.length ar,.slice z ((⟨(⟨d,([]:List (List Int))⟩:Arena),e⟩:Parity).Prio).length x]) R Z31 R (aP.stp<|an.tr aG) R λc3 aH bL=>Tv<|Jo<|Jz<|Jp<|Jf3 R ?_
 have cf:bM .i64 (j+1)=j+1:=wr1 b9 (Jm2 D) b8
 rw[cf]
 have D:=Jm2 D
 cases h
 exact Jz1 λa ha=>⟨k,_,Ja3 _,⟨aB,j+1,av,ao,ar,R,(T6 H S am an aG aH).wk R,(bK.stp aH),bL,by omega,by omega,aq⟩,(ha.mm R)⟩
 rintro _ cX ⟨ax,aj,X,Y,rfl,Q,bD,bE,rfl⟩
 have h:=yI b5
 refine Jp<|Je [1,1,2] R<|Jb4 tv R (Jc4 (haE bE.cells) I79 Z79 R)<|Jh4 (κ:=ax) 3 R Z79 R (aS.stp<|T4 c f I Q) R λc4 T bN=>Tv<|Jb 1 R<|Ju<|Ja2 (l:=[.cell 4 79,.tmp 5]) V251 (cd R bN I79 Z79 R<|Jp2 R R) R ?_
 cases h
 exact⟨(λb=>ren [(6,2),(7,3),(8,4)]<|ax b),u,y,X,Y,z,x,R,((aT.stp<|T7 t p c f I Q T).map (ren [(6,2),(7,3),(8,4)]) R R),((bQ.stp<|Q.tr T).map (ren [(6,2),(7,3),(8,4)]) R R),((bD.stp T).map (ren [(6,2),(7,3),(8,4)]) R R),((bT.stp<|Q.tr T).map (ren [(6,2),(7,3),(8,4)]) R R)⟩
 refine JT λh=>Jx R<|Je [2,1,2] R<|Jf R (Ji4 [.slice none 0 0,.slice none 0 0,.slice none 0 0] R)<|Jh4 (κ:=A) 3 R Z79 R (aS.stp<|c.tr f) R λc6 bk bP=>Tv<|Jb 1 R<|Ju<|Jw<|Ja2 (l:=[.cell 4 79,.tmp 5]) V251 (cd R bP I79 Z79 R<|Jp2 R R) R ?_
 cases h
 exact⟨A,none,0,none,0,none,0,R,(aT.stp<|T5 t p c f bk),Ow.nil,Ow.nil,Ow.nil⟩
theorem tS {J I G K F D H M i j}{p0:l7Game}{a1 ae}{p1:(List Bool)}{p2:Int}(S:Rd (Rp.int .i64) κ w 0 J I p0.owner) (al:Rd (Rp.int .i64) κ w 0 G K p0.prio) (T:Rd (Rp.sl (Rp.int .i64)) κ w 0 F D p0.next) (am:Rd (Rp.sl (Rp.int .i64)) κ w 0 H M p0.prev) (an:Oc E6 2 κ w 2 i j p0.pick) (U:Rd Rp.bool κ w 0 a1 ae p1){r:Int×(List Int)}(h:np p0 p1 p2=some r):Ret Tryz.prog 203 [.agg #[.slice J p0.owner.length I,.slice G p0.prio.length K,.slice F p0.next.length D,.slice H p0.prev.length M,.slice i p0.pick.length j],.slice a1 p1.length ae,vi p2] w (λv w'=>∃(κ':Col),v=vi r.1/\Ent κ w κ' w'/\Oc E6 2 κ' w' 2 i j r.2/\p0.pick.length=r.2.length):=by
 unfold np at h
 refine Jk3 κ F203 R N203 R λV=>Je [1,2] R<|Js3 (κ:=κ) 3 R λaB w1 u e ak=>Tv<|Jb 1 R<|Jq<|Je3 R<|Ob h λad ar W=>?_
 clear h
 refine Jx1 (λL w'=>∃κ',∃s:Int×(List Int),L=[]/\Stp [2] u w1 κ' w'/\Oc E6 2 κ' w' 2 i j s.2/\p0.pick.length=s.2.length/\ad=cb s) ?_ ?_
 refine Jv<|Jp3 [1,2,3] (λk E L w'=>∃κ',∃b:Int×(List Int),L=(7,vi b.1)::E/\Stp [2] u w1 κ' w'/\Oc E6 2 κ' w' 2 i j b.2/\p0.pick.length=b.2.length/\cu (kh p0 p1 p2) k b=some ad) ⟨_,_,⟨u,((0:Int),p0.pick),R,Jj3,(an.stp e),R,ar⟩,(KM R)⟩ ?_
 rintro k _ aL ⟨t,b,rfl,c,m,q,h⟩
 rcases k with _ | k
 cases h
 obtain⟨aI,h,p⟩:=BI h;unfold kh at h
 refine Jq<|Jg3 [2,2,1,2,2,1,2,2] 1 R<|Jd3 R U210 R Z31 ?_
 have n:=ak.stp c
 refine Jb3 R I31 (n.ld 2 R R)<|Jn 1 R<|Ob h λaw X h=>Jc3 R T X U31 Z37 ?_
 have o:=T.stp (e.tr c)
 obtain⟨az,aJ,aC,ao⟩:=o.gSl X
 refine Jb3 R I37 ao<|Jn3 R U37 R R<|Jb 1 R ?_
 revert h
 cases aD:decide (b.1<(aw.length:Int))
 refine JF λh=>Jy R<|Jc1<|Jt<|Jt ?_
 cases h
 have h:=p
 refine Jb1 ?_
 cases h
 exact Jw1 _ ⟨t,(b.1,b.2),R,c.wk R,m,q,R⟩ KN
 refine JT λh=>Jx R<|Js<|Jp<|Jq<|Jv<|Je [2,1,2,2,1,2,2,1,2] R<|Jd3 R U210 R Z31<|Jb3 R I31 (n.ld 2 R R)<|Jn 1 R<|Ob h λaQ Y h=>Jc3 R o Y U31 Z37 ?_
 obtain⟨aA,aK,N,ap⟩:=o.gSl Y
 refine Jb3 R I37 ap<|Jn 1 R<|Ob h λaR Z h=>Jc3 R N Z U37 Z2<|Jb3 R I2 (N.gInt Z)<|Jb 1 R<|Jq<|Jg3 [2,2,2,1,2] 2 R<|Ob h λax aa h=>Jc3 R U aa U178 Z4 ?_
 have O:=U.stp (e.tr c)
 refine Jb3 R I4 (O.gBool aa)<|Jb 1 R ?_
 revert h
 cases aE:(!ax)
 refine JF λh=>Jy R<|Js<|Jp<|Je [2,1,2,2,2,1] R<|Jd3 R U210 R Z37<|Jb3 R I37 (n.ld 4 R R)<|Jn 2 R<|Ob h λaS au h=>Jf R (Jf2 m.rdc au U37 Z2 R R q R)<|Ob h λz ac h=>Jk1 (κ:=t) (E:=E6) 2 [] R R R R R R R R Z2 R R R R m ac λaM A f aj=>Tv<|?_
 have y:p0.pick.length=z.length:=q.trans (Jt2 ac).2.2.2.symm
 refine Jd<|Jq<|Js1 (κ:=A) [0,3] none [(1,2),(2,2),(4,2),(0,0),(3,0),(5,2),(6,0),(7,1)] [] (by kernel_rfl) (by kernel_rfl) λaN d=>Jn 1 R<|Jd3 R U210 R Z37<|Jn 1 R ?_
 have P:=n.stp (f.tr d)
 refine Jg R (Jc4 (haC P.cells R) I210 Z210 R)<|Jg R (Jc2 I37 R R<|hvC (P.ld 0 R R) R)<|Ob h λaT ab h=>Jc3 R S ab U37 Z2 ?_
 have Q:=S.stp (T4 e c f d)
 refine Jg R (Jc2 I2 R R<|hvC (Q.gInt ab) R)<|Ob h λay av h=>?_
 have x:=aj.stp d
 have C:=(T4 e c f d)
 refine Jr3 R C253 (Ret.cast (by simp only[y,List.cons_append,List.nil_append])<|sK (κ:=Mk A) (p0:=(⟨p0.owner,p0.prio,p0.next,p0.prev,z⟩:l7Game)) (Ji3 Q) (Ji3<|al.stp C) (Ji3<|o.stp<|f.tr d) (Ji3<|am.stp C) (Ji3 x.rdc) (Ji3<|O.stp<|f.tr d) av) ?_
 rintro _ aO ⟨aG,rfl,ah⟩
 obtain⟨B,g,aH⟩:=Ji ah 4 R
 refine⟨(g.cl R),Jt1<|Jd ?_⟩
 revert h
 cases aF:ay
 refine JF λh=>Jy R<|Js<|Jz<|Jp<|Jf3 R ?_
 cases h
 exact Jz1 λa ha=>⟨k,_,Ja3 _,⟨B,(((IntKind.i64.wrap<|b.1+1):Int),z),R,(T4 c f d g).wk R,(x.stp g),y,p⟩,(ha.mm R)⟩
 refine JT λh=>Jx R<|Je3 R<|Ju<|Ja1<|Jw<|Jw ?_
 cases h
 obtain rfl:=Option.some.inj p
 have h:=yL W
 refine Ja1<|Jq2<|Jw<|Ja2 (l:=[.tmp 6]) V203 (Jp2 R R) R ?_
 cases h
 exact⟨B,R,(V.stp<|T5 e c f d g),(x.stp g),y⟩
 refine JT λh=>Jx R<|Jc1<|Jt<|Jb1<|Jp<|Jf3 R ?_
 cases h
 exact Jz1 λa ha=>⟨k,_,Ja3 _,⟨t,(((IntKind.i64.wrap<|b.1+1):Int),b.2),R,c.wk R,m,q,p⟩,(ha.mm R)⟩
 rintro _ aP ⟨af,s,rfl,ag,ai,aq,rfl⟩
 have h:=yI W
 refine Jp<|Je3 R<|Ju<|Ja2 (l:=[.tmp 6]) V203 (Jp2 R R) R ?_
 cases h
 exact⟨af,R,(V.stp<|e.tr ag),ai,aq⟩
theorem mJ {p0:Sig}{a1 c}{p1:(List Clause)}(j:Rd Clause.rp κ w 0 a1 c p1){r:Bool}(h:gT p0 p1=some r):Ret Tryz.prog 63 [.agg #[vi p0.In,vi p0.Out],.slice a1 p1.length c] w (Pvb κ w r):=by
 unfold gT at h
 refine Jk3 κ F63 R N63 R λk=>Je [1,2] R<|Js3 (κ:=κ) 2 R λq w1 a b i=>Tv<|Jb 1 R<|Jg3 [2,2,2,2,2,2,1,2,2,2] 1 R<|Jn3 R U29 R R<|Jn 2 R<|Ob h λo h m=>Jf4 [4] 13 o a w1 [(4,2),(5,2),(6,1),(7,2),(8,2)] [(9,2)] tv ?_ ?_
 revert h
 cases s:decide ((p1.length:Int)<=3)
 refine JF λh=>Jn 2 R<|Jz3 R<|Jn 2 R ?_
 cases h
 exact Jg4 tv R
 refine JT λh=>Jn 1 R<|Jf R (d8 (first:=[]) (captured:=[.tmp 2]) R R R ⟨_,R⟩)<|Ob h λy n h=>Jr3 R C126 (dQ (κ:=Mk a) (c1_0:=p0) (Ji3<|j.stp b) (i.map (mp [] 0) R R) n) ?_
 rintro _ x ⟨t,rfl,g⟩
 obtain⟨p,e,u⟩:=Ji g 3 R
 refine Tv<|Jn 2 R ?_
 cases h
 exact Jv1 _ tv ⟨R,_,e.wk R⟩<|KM R
 rintro _ v _ ⟨rfl,d,f⟩
 have h:=m
 refine Jb 1 R<|Ju<|Ja2 (l:=[.tmp 4]) V63 (Jp2 R R) R ?_
 cases h
 exact⟨d,R,(k.stp<|b.tr f)⟩
theorem pa {p0:Sig}{a1 K}{p1:(List Clause)}{y A B z}{p2:Word}(Z:Rd Clause.rp κ w 0 a1 K p1) (D:Rd (Rp.int .i64) κ w 0 y A p2.Stem) (F:Rd (Rp.int .i64) κ w 0 B z p2.Loop){r:Int}(h:eJ p0 p1 p2=some r):Ret Tryz.prog 28 [.agg #[vi p0.In,vi p0.Out],.slice a1 p1.length K,.agg #[.slice y p2.Stem.length A,.slice B p2.Loop.length z]] w (Pvi κ w r):=by
 unfold eJ at h
 refine Jk3 κ F28 R N28 R λt=>Je [1,1,2] R<|Js3 (κ:=κ) 2 R λau w1 N e W=>Tv<|Js3 (κ:=N) 3 R λav aN P d C=>Tv<|Jb 1 R<|Jq<|Je [1,2,1,2,2,1,1,1,2,2] R ?_
 have s:=W.stp d
 refine Jb4 tv R (Jc4 (haE s.cells) I28 Z28 R)<|Jn 1 R<|Ob h λam ah h=>?_
 have n:=Z.stp (e.tr d)
 refine Jr3 R C75 (mZ (κ:=Mk P) (p0:=p0) (Ji3 n) ah) ?_
 rintro _ al ⟨aB,rfl,T⟩
 obtain⟨u,b,aE⟩:=Ji T 4 R
 refine Tv<|Jn 2 R<|Ob h λI h aa=>Jf4 [1,3,5] 17 I u al [(5,1),(6,1),(7,1),(8,2),(9,2)] [] tv ?_ ?_
 revert h
 cases ay:(!am)
 refine JF λh=>Jb4 tv R (Jc4 (haE (s.stp b).cells) I28 Z28 R)<|Jb4 tv R (Jc4 (haE (C.stp b).cells) I39 Z39 R)<|Ob h λaP ai h=>Jr3 R C76 (po (κ:=Mk u) (p0:=p0) (p1:=p2) (Ji3<|D.stp<|T3 e d b) (Ji3<|F.stp<|T3 e d b) ai) ?_
 rintro _ aJ ⟨aC,rfl,U⟩
 obtain⟨ap,Q,aF⟩:=Ji U 6 R
 refine Tv<|Jn 2 R ?_
 cases h
 exact Jv1 _ tv ⟨R,_,Q.wk R⟩<|KM R
 refine JT λh=>Jz3 R<|Jz3 R<|Jz3 R<|Jn 2 R ?_
 cases h
 exact Jg4 tv R
 rintro _ M _ ⟨rfl,m,f⟩
 have h:=aa
 refine Jd ?_
 revert h
 cases az:I
 refine JF λh=>Jy R<|Js<|Jp<|Jq<|Je3 R ?_
 have ab:(p1.length:Int)<=9223372036854775807:=n.len_le
 refine Ob h λJ ae G=>?_
 clear h
 refine Jx1 (λL w'=>∃κ',L=[]/\Stp [] m M κ' w'/\J=cb ()) ?_ ?_
 refine Jv<|Jp3 [1,3,5] (λk E L w'=>∃κ' c,L=(7,vi c)::E/\Stp [] m M κ' w'/\0<=c/\Int.toNat ((p1.length:Int)-c)=k/\cntM (dD p0 p1 p2) k c ()=some J) ⟨_,_,⟨m,0,R,Jj3,(by decide),(by simp),ae⟩,(KM R)⟩ ?_
 rintro k _ aL ⟨p,c,rfl,g,ac,ax,h⟩
 rcases k with _ | k
 have o:=h;obtain⟨ak,h⟩:=cw (cb (Sum.inl ()):Int⊕((Unit)⊕(Unit)))
 have j:decide (c<(p1.length:Int))=false:=Jo2 (by omega)
 refine Jq<|Jg3 [2,2,2,2] 2 R<|Jn3 R U29 R R<|Jb 1 R<|Jw2 R j<|Jc1<|Jt<|Jt ?_
 cases h
 have h:=o
 refine Jb1 ?_
 cases h
 exact Jw1 _ ⟨p,R,g.wk R,R⟩ KN
 obtain⟨ak,h,o⟩:=BI h;unfold dD at h
 have j:decide (c<(p1.length:Int))=true:=Jn2 (by omega)
 refine Jq<|Jg3 [2,2,2,2] 2 R<|Jn3 R U29 R R<|Jb 1 R<|Jv2 R j<|Js<|Jp<|Jq<|Jv<|Jq<|Js1 (κ:=p) [0,2,3] none [(1,2),(2,2),(3,2),(0,0),(4,0),(5,0),(6,1),(7,2)] [] (by kernel_rfl) (by kernel_rfl) λaM i=>Jn 2 R<|Ob h λan H h=>Jc3 R n H U29 Z67<|Jg R (Jc4 (haC (s.stp<|T4 b f g i).cells R) I28 Z28 R) ?_
 obtain⟨aw,af,ad⟩:=((n.stp (T4 b f g i))).gSt H
 obtain⟨aq,aH,ar,aI,rfl,X,Y⟩:=Clause.un af
 have x:=(T6 e d b f g i)
 refine Jg R (Jc4 (haC ad R) I67 Z67 R)<|Jg R (Jc4 (haC (C.stp<|T4 b f g i).cells R) I39 Z39 R)<|Ob h λao aj h=>Jr3 R C77 (ss (κ:=Mk p) (p0:=p0) (p1:=an) (p2:=p2) (Ji3 X) (Ji3 Y) (Ji3<|D.stp x) (Ji3<|F.stp x) aj) ?_
 rintro _ aO ⟨aD,rfl,V⟩
 obtain⟨v,q,aG⟩:=Ji V 6 R
 refine⟨(q.cl R),Jn 1 R<|Jt1<|Jd ?_⟩
 revert h
 cases aA:(!ao)
 refine JF λh=>Jy R<|Js<|Jz<|Jp<|Jf3 R ?_
 have ag:bM .i64 (c+1)=c+1:=wr1 ac (Jm2 j) ab
 rw[ag]
 have j:=Jm2 j
 cases h
 exact Jz1 λa ha=>⟨k,_,Ja3 _,⟨v,c+1,R,(T3 g i q).wk R,by omega,by omega,o⟩,(ha.mm R)⟩
 refine JT λh=>Jx R<|Je3 R<|Ju<|Ja1<|Jw<|Jw ?_
 cases h
 obtain rfl:=Option.some.inj o
 have h:=yL G
 refine Ja1<|Jq2<|Jw<|Ja2 (l:=[.tmp 6]) V28 (Jp2 R R) R ?_
 cases h
 exact⟨v,R,(t.stp<|T7 e d b f g i q)⟩
 rintro _ aK ⟨O,rfl,S,rfl⟩
 have h:=yI G
 refine Jp<|Je3 R<|Ju<|Ja2 (l:=[.tmp 6]) V28 (Jp2 R R) R ?_
 cases h
 exact⟨O,R,(t.stp<|T5 e d b f S)⟩
 refine JT λh=>Jx R<|Je3 R<|Ju<|Jw<|Ja2 (l:=[.tmp 6]) V28 (Jp2 R R) R ?_
 cases h
 exact⟨m,R,(t.stp<|T4 e d b f)⟩
theorem rV {p0:Sig}{G I H L}{p1:Machine}{J M N K}{p2:Word}(Q:Rd (Rp.sl (Rp.int .i64)) κ w 0 G I p1.Next) (S:Rd (Rp.sl (Rp.int .i64)) κ w 0 H L p1.Out) (T:Rd (Rp.int .i64) κ w 0 J M p2.Stem) (U:Rd (Rp.int .i64) κ w 0 N K p2.Loop){r:Word}(h:lN p0 p1 p2=some r):Ret Tryz.prog 78 [.agg #[vi p0.In,vi p0.Out],.agg #[.slice G p1.Next.length I,.slice H p1.Out.length L],.agg #[.slice J p2.Stem.length M,.slice N p2.Loop.length K]] w (λv w'=>∃(κ':Col) (Y:Option Addr) (aa:Nat) (Z:Option Addr) (ab:Nat),v= .agg #[.slice Y r.Stem.length aa,.slice Z r.Loop.length ab]/\Ent κ w κ' w'/\Oc E6 2 κ' w' 2 Y aa r.Stem/\Oc E6 2 κ' w' 3 Z ab r.Loop):=by
 unfold lN at h
 refine Jk3 κ F78 R N78 R λA=>Je [1,1,1,1] R<|Js3 (κ:=κ) 2 R λaP w1 ad j av=>Tv<|Js3 (κ:=ad) 3 R λaQ bc af i P=>Tv<|Js3 (κ:=af) 4 R λaR bi ac g O=>Tv<|Jt3 (κ:=ac) 5 R X39 R λaS a8 B e z=>Tv<|Jd<|Jq<|Jq<|Js1 (κ:=B) [2,3,4] none [(0,0),(1,1),(2,2),(3,2),(4,0),(5,0),(6,1),(7,2),(8,2),(9,2),(10,0),(11,0),(12,1),(13,1),(14,2),(15,2)] [] (by kernel_rfl) (by kernel_rfl) λa9 d=>?_
 have s:=av.stp (T4 i g e d)
 refine Jg R (Jc4 (haC s.cells R) I28 Z28 R)<|Ob h λaL aE h=>Jr3 R C82 (mn (κ:=Mk B) (p0:=p0) aE) ?_
 rintro _ aJ ⟨aY,rfl,an⟩
 obtain⟨C,a,a3⟩:=Ji an 6 R
 refine⟨(a.cl R),Jn 2 R<|Ob h λW h aC=>Jf4 [3,4,5,6] 17 W C aJ [(4,0),(5,0),(6,1),(7,2),(8,2)] [(9,2),(10,0),(11,0),(12,1),(13,1),(14,2),(15,2)] (a.cl R) ?_ ?_⟩
 revert h
 cases aU:(!aL)
 have E:=(T6 j i g e d a)
 refine JF λh=>Jg R (Jc4 (haC s.cells R) I28 Z28 R)<|Jg R (Jc4 (haC (P.stp<|T3 g e d).cells R) I33 Z33 R)<|Ob h λbl aF h=>Jr3 R C83 (mS (κ:=Mk C) (p0:=p0) (p1:=p1) (Ji3<|Q.stp E) (Ji3<|S.stp E) aF) ?_
 rintro _ ba ⟨aZ,rfl,ao⟩
 obtain⟨aN,x,a4⟩:=Ji ao 8 R
 refine⟨((a.tr x).cl R),Jn 2 R ?_⟩
 cases h
 exact Jv1 _ ((a.tr x).cl R) ⟨R,_,x.wk R⟩<|KM R
 refine JT λh=>Ja4 R<|Ja4 R<|Jz3 R<|Jn 2 R ?_
 cases h
 exact Jv1 _ (a.cl R) ⟨R,_,Jj3⟩<|KM R
 rintro _ aK _ ⟨rfl,D,c⟩
 have h:=aC
 refine Jn 1 R<|Ob h λX h aD=>Jf4 [3,4,5,6] 24 X D aK [(10,0),(11,0),(12,1),(13,1),(14,2),(15,2)] [] ((a.tr c).cl R) ?_ ?_
 revert h
 cases aV:W
 refine JF λh=>Jg R (Jc4 (haC (O.stp<|e.tr d).cells R) I39 Z39 R)<|Jg R (Jc4 (haC s.cells R) I28 Z28 R)<|Ob h λbm aG h=>Jr3 R C46 (jS (κ:=Mk D) (p0:=p0) aG) ?_
 rintro _ bb ⟨a0,rfl,ap⟩
 obtain⟨ae,o,a5⟩:=Ji ap 8 R
 have F:=(T8 j i g e d a c o)
 refine⟨((T3 a c o).cl R),Ob h λbn aH h=>Jr3 R C100 (pj (κ:=Mk ae) (p0:=p2) (Ji3<|T.stp F) (Ji3<|U.stp F) aH) ?_⟩
 rintro _ bd ⟨a1,rfl,aq⟩
 obtain⟨aO,y,a6⟩:=Ji aq 10 R
 refine⟨((T4 a c o y).cl R),Jn 2 R ?_⟩
 cases h
 exact Jv1 _ ((T4 a c o y).cl R) ⟨R,_,(o.tr y).wk R⟩<|KM R
 refine JT λh=>Ja4 R<|Ja4 R<|Jz3 R<|Jz3 R<|Jn 2 R ?_
 cases h
 exact Jv1 _ ((a.tr c).cl R) ⟨R,_,Jj3⟩<|KM R
 rintro _ be _ ⟨rfl,t,f⟩
 have h:=aD
 refine Jt1<|Jd ?_
 revert h
 cases aW:X
 have p:=(T8 j i g e d a c f)
 refine JF λh=>Jy R<|Js<|Jp<|Je [1,1,1,1,2,2,2,1,1,2] R<|Jb4 tv R (Jc4 (haE (s.stp<|T3 a c f).cells) I28 Z28 R)<|Jb4 tv R (Jc4 (haE (P.stp<|T6 g e d a c f).cells) I33 Z33 R)<|Jb4 tv R (Jc4 (haE (O.stp<|T5 e d a c f).cells) I39 Z39 R)<|Ob h λaM aI h=>Jr3 R C156 (rY (κ:=Mk t) (p0:=p0) (p1:=p1) (p2:=p2) (Ji3<|Q.stp p) (Ji3<|S.stp p) (Ji3<|T.stp p) (Ji3<|U.stp p) aI) ?_
 rintro _ bg ⟨a2,al,ak,aj,am,rfl,ar,ax,ay⟩
 obtain⟨ag,q,V⟩:=Ji ar 8 R
 refine Tv<|Jn 3 R<|Jt3 (κ:=ag) 12 R X39 R λaT bh n k az=>Tv<|Jh4 (κ:=n) 12 R Z39 R az R λbj m aA=>Tv<|Jb 1 R<|Jq<|Je3 R ?_
 revert h
 cases aX:(!aM.2)
 refine JF λh=>Jy R<|Js<|Jp<|Je [1,1] R<|Jb4 tv R (Jc4 (haE aA.cells) I39 Z39 R)<|Jh4 (κ:=n) 5 R Z39 R (z.stp<|T7 d a c f q k m) R λa7 u au=>Tv<|Jd<|Ju<|Ja2 (l:=[.cell 6 39]) V78 (cd R au I39 Z39 R R) R ?_
 cases h
 exact⟨(λb=>ren [(10,2),(11,3)]<|n b),al,ak,aj,am,R,((A.stp<|T12 j i g e d a c f q k m u).map (ren [(10,2),(11,3)]) R R),(((ax.mx (cc _) V R (R:8+2=10)).stp (T3 k m u)).map (ren [(10,2),(11,3)]) R R),(((ay.mx (cc _) V R (R:8+3=11)).stp (T3 k m u)).map (ren [(10,2),(11,3)]) R R)⟩
 refine JT λh=>Jx R<|Je [2,1] R<|Jf R (Ji4 [.slice none 0 0,.slice none 0 0] R)<|Jh4 (κ:=n) 5 R Z39 R (z.stp<|T7 d a c f q k m) R λbk ai aB=>Tv<|Jd<|Ju<|Jw<|Ja2 (l:=[.cell 6 39]) V78 (cd R aB I39 Z39 R R) R ?_
 cases h
 exact⟨n,none,0,none,0,R,(A.stp<|T12 j i g e d a c f q k m ai),Ow.nil,Ow.nil⟩
 refine JT λh=>Jx R<|Je [2,1] R<|Jf R (Ji4 [.slice none 0 0,.slice none 0 0] R)<|Jh4 (κ:=t) 5 R Z39 R (z.stp<|T4 d a c f) R λbf ah aw=>Tv<|Jd<|Ju<|Jw<|Ja2 (l:=[.cell 6 39]) V78 (cd R aw I39 Z39 R R) R ?_
 cases h
 exact⟨t,none,0,none,0,R,(A.stp<|T9 j i g e d a c f ah),Ow.nil,Ow.nil⟩
theorem cU {a i}{p0:(List Int)}{e d b c}{c1_0_0:Clause}{f g}(n:Rd (Rp.int .i64) κ w 0 a i p0) (o:Rd (Rp.int .i64) κ w 0 e d c1_0_0.A) (p:Rd (Rp.int .i64) κ w 0 b c c1_0_0.B) (q:Bc κ w 0 f 91 [.func (.func 255) #[] #[.pointer (some ⟨g,0,none⟩)]]) (s:Bc κ w 0 g 67 [vi c1_0_0.Kind,.slice e c1_0_0.A.length d,.slice b c1_0_0.B.length c]){r:Bool}(h:bX p0 c1_0_0=some r):Ret Tryz.prog 216 [.slice a p0.length i,.func (.func 257) #[] #[.pointer (some ⟨f,0,none⟩)]] w (Pvb κ w r):=by
 unfold bX at h
 refine Jk3 κ F216 R N216 R λt=>Je3 R<|Jg3 [2,2,1,2,2] 2 R<|Ob h λy u h=>Jr3 R C47 (dV (κ:=Mk κ) (c1_0_0:=c1_0_0) (Ji3 n) (Ji3 o) (Ji3 p) (q.map (mp [] 0) R R) (s.map (mp [] 0) R R) u) ?_
 rintro _ w1 ⟨v,rfl,m⟩
 obtain⟨j,k,x⟩:=Ji m 2 R
 refine Tv<|Jb 2 R<|Ju<|Ja2 (l:=[.tmp 4]) V216 (Jp2 R R) R ?_
 cases h
 exact⟨j,R,(t.stp k)⟩
end Go.Proofs.YtleekpaohfpooaaGreat
