/- The walks, part 8. By program. -/
import Derived.Test.YtleekpaohfpooaaGreatFns7FW
set_option linter.unusedVariables false
set_option linter.unusedSimpArgs false
open Sum renaming inr → eg
namespace Go.Proofs.YtleekpaohfpooaaGreat
open Go Go.Wk Go.Proofs
set_option maxRecDepth 100000
set_option maxHeartbeats 1000000
variable {w:World}{κ:Col}
theorem l7 {p0:Sig}{a1 c}{p1:(List Clause)}(j:Rd Clause.rp κ w 0 a1 c p1){r:Bool}(h:eI p0 p1=some r):Ret Tryz.prog 63 [.agg #[vi p0.In,vi p0.Out],.slice a1 p1.length c] w (Pvb κ w r):=by
 unfold eI at h
 refine Jk3 κ F63 R N63 R λhE=>Je [1,2] R<|Js3 (κ:=κ) 2 R λp w1 a b i=>Tv<|Jb 1 R<|Jg3 [2,2,2,2,2,2,1,2,2,2] 1 R<|Jn3 R U29 R R<|Jn 2 R<|Ob h λn h k=>Jf4 [4] 13 n a w1 [(4,2),(5,2),(6,1),(7,2),(8,2)] [(9,2)] tv ?_ ?_
 revert h
 cases q:decide ((p1.length:Int)<=3)
 refine JF λh=>Jn 2 R<|Jz3 R<|Jn 2 R ?_
 cases h
 exact Jg4 tv R
 refine JT λh=>Jn 1 R<|Jf R (js (first:=[]) (captured:=[.tmp 2]) R R R ⟨_,R⟩)<|Ob h λx m h=>Jr3 R C126 (dw (κ:=Mk a) (c1_0:=p0) (Ji3<|j.stp b) (i.map (mp [] 0) R R) m) ?_
 rintro _ v ⟨s,rfl,g⟩
 obtain⟨o,e,t⟩:=Ji g 3 R
 refine Tv<|Jn 2 R ?_
 cases h
 exact Jv1 _ tv ⟨R,_,e.wk R⟩<|KM R
 rintro _ u _ ⟨rfl,d,f⟩
 have h:=k
 refine Jb 1 R<|Ju<|Ja2 (l:=[.tmp 4]) V63 (Jp2 R R) R ?_
 cases h
 exact⟨d,R,(hE.stp<|b.tr f)⟩
theorem i8 {p0:Sig}{D B F C}{p1:Det}(v:Rd (Rp.sl (Rp.int .i64)) κ w 0 D B p1.Next) (af:Rd Pair.rp κ w 0 F C p1.Pairs){r:Bool}(h:jl p0 p1=some r):Ret Tryz.prog 123 [.agg #[vi p0.In,vi p0.Out],.agg #[.slice D p1.Next.length B,.slice F p1.Pairs.length C]] w (Pvb κ w r):=by
 unfold jl at h
 refine Jk3 κ F123 R N123 R λhE=>Je [1,1,2] R<|Js3 (κ:=κ) 2 R λaF w1 S j ad=>Tv<|Js3 (κ:=S) 3 R λaG a3 U g o=>Tv<|Jb 1 R<|Je [2,1,2,2] R<|Jd3 R U71 R Z31<|Jb3 R I31 (o.ld 0 R R)<|Jn3 R U31 R R<|Jb 1 R<|Jq<|Je [1,1,2,2,2,1,2,2] R ?_
 have I:=ad.stp g
 refine Jb4 tv R (Jc4 (haE I.cells) I28 Z28 R)<|Ob h λay ao h=>Jr3 R C58 (jb (κ:=Mk U) (p0:=p0) ao) ?_
 rintro _ aw ⟨aN,rfl,Y⟩
 obtain⟨x,c,aS⟩:=Ji Y 4 R
 refine Tv<|Jn 2 R<|Ob h λN h ag=>Jf4 [2,3,5] 17 N x aw [(4,2),(5,1),(6,2),(7,2)] [] tv ?_ ?_
 revert h
 cases aJ:(!ay)
 refine JF λh=>Jn 1 R<|Ob h λa7 ap h=>Jr3 R C59 (cP (κ:=Mk x) ap) ?_
 rintro _ aZ ⟨aO,rfl,Z⟩
 obtain⟨aB,W,aT⟩:=Ji Z 6 R
 refine Tv<|Jn 2 R ?_
 cases h
 exact Jv1 _ tv ⟨R,_,W.wk R⟩<|KM R
 refine JT λh=>Jn 1 R<|Jz3 R<|Jn 2 R ?_
 cases h
 exact Jg4 tv R
 rintro _ Q _ ⟨rfl,n,d⟩
 have h:=ag
 refine Jd ?_
 revert h
 cases aK:N
 refine JF λh=>Jy R<|Js<|Jp<|Jq<|Je3 R ?_
 have ai:(p1.Next.length:Int)<=9223372036854775807:=v.len_le
 refine Ob h λP am J=>?_
 clear h
 refine Jo3 [3,5] (λE L w'=>∃κ',L=E/\Stp [] n Q κ' w'/\P=eg ()) ?_ ?_
 refine Jv<|Jp3 [2,3,5] (λk E L w'=>∃κ' b,L=(6,vi b)::E/\Stp [] n Q κ' w'/\0<=b/\Int.toNat ((p1.Next.length:Int)-b)=k/\cntM (kc p0 p1) k b ()=some P) ⟨_,_,⟨n,0,R,Jj3,(by decide),(by simp),am⟩,(KM R)⟩ ?_
 rintro k _ a1 ⟨q,b,rfl,f,aj,aI,h⟩
 rcases k with _ | k
 have p:=h;obtain⟨av,h⟩:=cn (eg (Sum.inl ()):Bool⊕((Unit)⊕(Unit)))
 have i:decide (b<(p1.Next.length:Int))=false:=Jo2 (by omega)
 refine Jq<|Jg3 [2,2,1,2,2] 1 R<|Jd3 R U71 R Z31<|Jb3 R I31 ((o.stp<|T3 c d f).ld 0 R R)<|Jn3 R U31 R R<|Jb 1 R<|Jw2 R i<|Jc1<|Jt<|Jt ?_
 cases h
 have h:=p
 refine Jb1 ?_
 cases h
 exact Jw1 _ ⟨q,R,f.wk R,R⟩<|KM R
 obtain⟨av,h,p⟩:=BI h;unfold kc at h
 have i:decide (b<(p1.Next.length:Int))=true:=Jn2 (by omega)
 refine Jq<|Jg3 [2,2,1,2,2] 1 R<|Jd3 R U71 R Z31 ?_
 have G:=o.stp (T3 c d f)
 refine Jb3 R I31 (G.ld 0 R R)<|Jn3 R U31 R R<|Jb 1 R<|Jv2 R i<|Js<|Jp<|Jq<|Jv<|Jq<|Js1 (κ:=q) [0,2,3] none [(0,2),(2,2),(1,0),(3,2),(4,0),(5,2),(6,0),(7,1),(8,2),(9,2),(10,2),(12,2),(15,2),(11,0),(13,2),(14,0),(16,1),(17,2),(18,2)] [] (by kernel_rfl) (by kernel_rfl) λa2 m=>Jd3 R U71 R Z31<|Jn 1 R ?_
 have H:=G.stp m
 refine Jg R (Jc2 I31 R R<|hvC (H.ld 0 R R) R)<|Ob h λaz K h=>Jc3 R v K U31 Z37 ?_
 have u:=v.stp (T6 j g c d f m)
 obtain⟨aD,aX,aH,ak⟩:=u.gSl K
 refine Jg R (Jc2 I37 R R<|hvC ak R)<|Jn3 R U37 R R<|Jg R (Jc4 (haC (I.stp<|T4 c d f m).cells R) I28 Z28 R)<|Ob h λaA aq h=>Jr3 R C120 (fC (κ:=Mk q) (p0:=p0) aq) ?_
 rintro _ ax ⟨aP,rfl,aa⟩
 obtain⟨y,e,aU⟩:=Ji aa 6 R
 refine⟨(e.cl R),Jn 2 R<|Ob h λO h ah=>Jf4 [2,3,5,6] 43 O y ax [(10,2),(12,2),(15,2),(11,0),(13,2),(14,0),(16,1),(17,2),(18,2)] [] (e.cl R) ?_ ?_⟩
 revert h
 cases aL:((az.length:Int) !=aA)
 refine JF λh=>Jd3 R U71 R Z31<|Jn 2 R<|Jg R (Jc2 I31 R R<|hvC (H.ld 0 R R) R)<|Ob h λa8 M h=>Jc3 R u M U31 Z37 ?_
 obtain⟨aE,aY,ae,al⟩:=u.gSl M
 refine Jg R (Jc2 I37 R R<|hvC al R)<|Ob h λa9 ar h=>Jr3 R C61 (kQ (κ:=Mk y) (Ji3<|ae.stp e) ar) ?_
 rintro _ a4 ⟨aQ,rfl,ab⟩
 obtain⟨aC,t,aV⟩:=Ji ab 8 R
 refine⟨((e.tr t).cl R),Jn 2 R ?_⟩
 cases h
 exact Jv1 _ ((e.tr t).cl R) ⟨R,_,t.wk R⟩<|KM R
 refine JT λh=>Jn 3 R<|Ja4 R<|Jn 1 R<|Ja4 R<|Jz3 R<|Jn 2 R ?_
 cases h
 exact Jv1 _ (e.cl R) ⟨R,_,Jj3⟩<|KM R
 rintro _ a5 _ ⟨rfl,z,A⟩
 have h:=ah
 refine Jt1<|Jd ?_
 revert h
 cases aM:O
 refine JF λh=>Jy R<|Js<|Jz<|Jp<|Jf3 R ?_
 have an:IntKind.wrap .i64 (b+1)=b+1:=wr1 aj (Jm2 i) ai
 rw[an]
 have i:=Jm2 i
 cases h
 exact Jz1 λa ha=>⟨k,_,Ja3 _,⟨z,b+1,R,(T4 f m e A).wk R,by omega,by omega,p⟩,(ha.mm R)⟩
 refine JT λh=>Jx R<|Je3 R<|Ju<|Ja1<|Jw<|Jw ?_
 cases h
 obtain rfl:=Option.some.inj p
 have h:=yL J
 refine Ja1<|Jq2<|Jw<|Ja2 (l:=[.tmp 4]) V123 (Jp2 R R) R ?_
 cases h
 exact⟨z,R,(hE.stp<|T8 j g c d f m e A)⟩
 rintro _ a0 ⟨T,rfl,s,rfl⟩
 have h:=yI J
 refine Jp<|Je [2,1,2,1,2] R<|Jd3 R U71 R Z69<|Jb3 R I69 ((o.stp<|T3 c d s).ld 1 R R)<|Jn 1 R<|Ob h λba au h=>Jr3 R C133 (n7 (κ:=Mk T) (Ji3<|af.stp<|T5 j g c d s) au) ?_
 rintro _ a6 ⟨aR,rfl,ac⟩
 obtain⟨V,X,aW⟩:=Ji ac 6 R
 refine Tv<|Jb 1 R<|Ju<|Ja2 (l:=[.tmp 4]) V123 (Jp2 R R) R ?_
 cases h
 exact⟨V,R,(hE.stp<|T6 j g c d s X)⟩
 refine JT λh=>Jx R<|Je3 R<|Ju<|Jw<|Ja2 (l:=[.tmp 4]) V123 (Jp2 R R) R ?_
 cases h
 exact⟨n,R,(hE.stp<|T4 j g c d)⟩
theorem qt {bL bJ bM bK}{p0:Arena}{a1 cy}{p1:(List Pair)}{p2:Int}(eb:Rd (Rp.int .i64) κ w 0 bL bJ p0.Owner) (ec:Rd (Rp.sl (Rp.int .i64)) κ w 0 bM bK p0.Next) (bb:Rd Pair.rp κ w 0 a1 cy p1){r:Parity×(List Place)×Bool}(h:gM p0 p1 p2=some r):Ret Tryz.prog 66 [.agg #[.slice bL p0.Owner.length bJ,.slice bM p0.Next.length bK],.slice a1 p1.length cy,vi p2] w (λv w'=>∃(κ':Col) (cq:Option Addr) (cu:Nat) (cr:Option Addr) (cv:Nat) (cs:Option Addr) (cw:Nat) (ct:Option Addr) (cx:Nat),v= .tuple #[.agg #[.slice cq r.1.Arena.Owner.length cu,.slice cr r.1.Arena.Next.length cv,.slice cs r.1.Prio.length cw],.slice ct r.2.1.length cx,.bool r.2.2]/\Ent κ w κ' w'/\Oc E6 2 κ' w' 2 cq cu r.1.Arena.Owner/\Oc (Ep.own E6 2) 37 κ' w' 3 cr cv r.1.Arena.Next/\Oc E6 2 κ' w' 4 cs cw r.1.Prio/\Oc (Ep.fz Place.rp) 88 κ' w' 5 ct cx r.2.1):=by
 unfold gM at h
 refine Jk3 κ F66 R N66 R λhE=>Je [1,1,2,2] R<|Js3 (κ:=κ) 2 R λe6 w1 cJ V d0=>Tv<|Jt3 (κ:=cJ) 3 R X79 R λe7 gl cU S ba=>Tv<|Jb 2 R<|Je [2,1,2,2] R<|Jd3 R U75 R Z37 ?_
 have aR:=d0.stp S
 refine Jb3 R I37 (aR.ld 0 R R)<|Jn3 R U37 R R<|Jb 1 R<|Jq<|Je [1,1,2,2,2,2,1,2,2,2,2,2,2,1,2,2] R<|Jb4 tv R (Jc4 (haE aR.cells) I75 Z75 R)<|Ob h λeS ez h=>?_
 have a6:=eb.stp (V.tr S)
 have a7:=ec.stp (V.tr S)
 refine Jr3 R C132 (nY (κ:=Mk cU) (p0:=p0) (Ji3 a6) (Ji3 a7) ez) ?_
 rintro _ eJ ⟨fy,rfl,dn⟩
 obtain⟨bl,j,fF⟩:=Ji dn 4 R
 refine Tv<|Jn 2 R<|Ob h λcj h ed=>Jf4 [1,2,3,6,9] 32 cj bl eJ [(4,2),(5,2),(6,1),(7,2),(8,2)] [(9,2),(10,2),(11,2),(12,2),(13,1),(14,2),(15,2)] tv ?_ ?_
 revert h
 cases fu:(!eS)
 refine JF λh=>Jn 2 R<|Ob h λgt eA h=>Jr3 R C133 (n7 (κ:=Mk bl) (Ji3<|bb.stp<|T3 V S j) eA) ?_
 rintro _ f2 ⟨fA,rfl,dq⟩
 obtain⟨e0,c2,fG⟩:=Ji dq 6 R
 refine Tv<|Jn 2 R ?_
 cases h
 exact Jv1 _ tv ⟨R,_,c2.wk R⟩<|KM R
 refine JT λh=>Jn 2 R<|Jz3 R<|Jn 2 R ?_
 cases h
 exact Jg4 tv R
 rintro _ eM _ ⟨rfl,bo,p⟩
 have h:=ed
 refine Jn 1 R<|Ob h λck h ee=>Jf4 [1,2,3,6] 39 ck bo eM [(10,2),(11,2),(12,2),(13,1),(14,2),(15,2)] [] tv ?_ ?_
 revert h
 cases fv:cj
 refine JF λh=>Jn 3 R<|Ob h λgu eB h=>Jr3 R C59 (cP (κ:=Mk bo) eB) ?_
 rintro _ gi ⟨fD,rfl,dt⟩
 obtain⟨e1,c3,fI⟩:=Ji dt 6 R
 refine Tv<|Jn 2 R ?_
 cases h
 exact Jv1 _ tv ⟨R,_,c3.wk R⟩<|KM R
 refine JT λh=>Jn 3 R<|Jz3 R<|Jn 2 R ?_
 cases h
 exact Jg4 tv R
 rintro _ gj _ ⟨rfl,bp,q⟩
 have h:=ee
 refine Jd ?_
 revert h
 cases fw:ck
 refine JF λh=>Jy R<|Js<|Jp<|Je [1,2] R<|Jx3 (κ:=bp) (E:=E6) 6 R Y37 a8 R λdc dd cA aY G d3=>Tv<|Jb 1 R<|Jq<|Je3 R ?_
 have eh:(p1.length:Int)<=9223372036854775807:=bb.len_le
 refine Ob h λcl en ef=>?_
 clear h
 refine Jo3 [1,2,3,6] (λE L w'=>∃κ',∃K:(List Int),∃aj an,L=(10,.slice aj K.length an)::E/\Stp [6] aY cA κ' w'/\Oc E6 2 κ' w' 6 aj an K/\cl=eg K) ?_ ?_
 refine Jv<|Jp3 [1,2,3,6] (λk E L w'=>∃κ' s,∃ac:(List Int),∃aN aB,L=(10,.slice aN ac.length aB)::(11,vi s)::E/\Stp [6] aY cA κ' w'/\Oc E6 2 κ' w' 6 aN aB ac/\0<=s/\Int.toNat ((p1.length:Int)-s)=k/\cntM dX k s ac=some cl) ⟨_,_,⟨aY,0,(([]:List Int):(List Int)),dc,dd,R,Jj3,d3,(by decide),(by simp),en⟩,(KM R)⟩ ?_
 rintro k _ gn ⟨br,s,ac,aN,aB,rfl,bG,b9,ei,fp,h⟩
 rcases k with _ | k
 have be:=h;obtain⟨eH,h⟩:=cn (eg (Sum.inl ac):(Parity×(List Place)×Bool)⊕(((List Int))⊕((List Int))))
 have ab:decide (s<(p1.length:Int))=false:=Jo2 (by omega)
 refine Jq<|Jg3 [2,2,2,2] 2 R<|Jn3 R U69 R R<|Jb 1 R<|Jw2 R ab<|Jc1<|Jt<|Jt ?_
 cases h
 have h:=be
 refine Jb1 ?_
 cases h
 exact Jw1 _ ⟨br,ac,aN,aB,R,bG.wk R,b9,R⟩<|KM R
 obtain⟨eH,h,be⟩:=BI h;unfold dX at h
 have ab:decide (s<(p1.length:Int))=true:=Jn2 (by omega)
 refine Jq<|Jg3 [2,2,2,2] 2 R<|Jn3 R U69 R R<|Jb 1 R<|Jv2 R ab<|Js<|Jp<|Jq<|Jv<|Jh3 [2,2,1,1,2] 2 R<|Jd4 (κ:=br) 7 [s] R Y37 a8 R λfl bt go cW bH d5=>Tv<|Ob h λeT eC h=>Jy3 (κ:=cW) (E:=E6) 6 [] R Y37 a8 R (b9.stp bH) (Sl.srcP (co _) d5.rdc) bZ eC R λda dk gp cX c4 d6=>Tv<|Jc 1 R<|Jz<|Jp<|Jf3 R ?_
 have eq:IntKind.wrap .i64 (s+1)=s+1:=wr1 ei (Jm2 ab) eh
 rw[eq]
 have ab:=Jm2 ab
 cases h
 exact Jz1 λa ha=>⟨k,_,Ja3 _,⟨cX,s+1,eT,da,dk,R,(T3 bG bH c4).wk R,d6,by omega,by omega,be⟩,(ha.mm R)⟩
 rintro _ eN ⟨cV,K,aj,an,rfl,H,d4,rfl⟩
 have h:=yI ef
 refine Jp<|Jg3 [2,2,2,1,2] 2 R<|Jf R (Ji4 [vi p2,.slice aj K.length an] R) ?_
 obtain⟨cY,I,eZ⟩:=kB cV eN 6
 refine Jw3 (κ:=cY) (E:=(Ep.fz Place.rp)) 7 [] (parts:=[(0,.tmp 55)]) (cells:=[vi p2,.slice aj K.length an]) (xs:=([(⟨p2,K⟩:Place)]:List Place)) R Y80 jV R (Je4<|Place.mk_rel (x:=(⟨p2,K⟩:Place))<|Sl.z1<|Sl.st eZ d4.rdc) λc9 c7 gq c0 J d7=>Tv<|Jb 1 R<|Je [2,1,1] R<|Jf R (Ji4 [.slice none 0 0,.slice none 0 0,.slice none 0 0] R)<|Jt3 (κ:=c0) 8 R X79 R λbO gr au u d8=>Tv<|Jh4 (κ:=au) 8 R Z79 R d8 R λcB y d9=>Tv<|Jd<|Jq<|Je3 R<|Ob h λcm eo cd=>?_
 clear h
 refine Jo3 [6,13] (λE L w'=>∃κ',∃z:(List Place)×Int×(List Int)×(List<|List Int)×(List Int),∃az aK aH ay ax aJ aG aA,L=(12,.slice az z.1.length aK)::E/\Stp [7,8,9,10,11,12,16,19,20,21] au cB κ' w'/\Oc (Ep.fz Place.rp) 88 κ' w' 7 az aK z.1/\Oc E6 2 κ' w' 9 aH ay z.2.2.1/\Oc (Ep.own E6 2) 37 κ' w' 10 ax aJ z.2.2.2.1/\Oc E6 2 κ' w' 11 aG aA z.2.2.2.2/\Bc κ' w' 8 bO 79 [.slice aH z.2.2.1.length ay,.slice ax z.2.2.2.1.length aJ,.slice aG z.2.2.2.2.length aA]/\cm=eg z) ?_ ?_
 refine Jv<|Jp3 [1,3,6,13] (λk E L w'=>∃κ',∃c:(List Place)×Int×(List Int)×(List<|List Int)×(List Int),∃ai am aM aF al ao aa Z,L=(12,.slice ai c.1.length am)::(14,vi c.2.1)::E/\Stp [7,8,9,10,11,12,16,19,20,21] au cB κ' w'/\Oc (Ep.fz Place.rp) 88 κ' w' 7 ai am c.1/\Oc E6 2 κ' w' 9 aM aF c.2.2.1/\Oc (Ep.own E6 2) 37 κ' w' 10 al ao c.2.2.2.1/\Oc E6 2 κ' w' 11 aa Z c.2.2.2.2/\Bc κ' w' 8 bO 79 [.slice aM c.2.2.1.length aF,.slice al c.2.2.2.1.length ao,.slice aa c.2.2.2.2.length Z]/\bU (dY p0 p1) k c=some cm) ⟨_,_,⟨au,((([(⟨p2,K⟩:Place)]:List Place):(List Place)),(0:Int),(([]:List Int):(List Int)),(([]:List (List Int)):(List<|List Int)),(([]:List Int):(List Int))),c9,c7,none,0,none,0,none,0,R,Jj3,(d7.stp<|u.tr y),Ow.nil,Ow.nil,Ow.nil,d9,eo⟩,(KM R)⟩ ?_
 rintro k _ fO ⟨bg,c,ai,am,aM,aF,al,ao,aa,Z,rfl,A,aO,bP,bQ,bR,bS,h⟩
 rcases k with _ | k
 cases h
 obtain⟨fK,h,bc⟩:=BI h;unfold dY at h
 refine Jq<|Jg3 [2,2,2,2] 2 R<|Jn3 R U80 R R<|Jb 1 R ?_
 revert h
 cases fq:decide (c.2.1<(c.1.length:Int))
 refine JF λh=>Jy R<|Jc1<|Jt<|Jt ?_
 cases h
 have h:=bc
 refine Jb1 ?_
 cases h
 exact Jw1 _ ⟨bg,(c.1,c.2.1,c.2.2.1,c.2.2.2.1,c.2.2.2.2),ai,am,aM,aF,al,ao,aa,Z,R,A.wk R,aO,bP,bQ,bR,bS,R⟩<|KM R
 refine JT λh=>Jx R<|Js<|Jp<|Jq<|Jv<|Jg3 [2,2,2,1,1,1] 2 R<|Ob h λeV cf h=>Jc3 R aO.rdc cf U80 Z88 ?_
 obtain⟨fn,ep,el⟩:=Ow.gZS aO cf
 obtain⟨e2,fL,rfl,ea⟩:=Place.un ep
 refine Jb4 tv R (Jc4 (haE el) I88 Z88 R)<|Jt3 (κ:=bg) 12 R X88 R λe5 fP bh g dz=>Tv<|Jh4 (κ:=bh) 12 R Z88 R dz R λfQ i aP=>Tv<|Jd<|Jg3 [2,2,1,2,1,1,2] 1 R<|Jd3 R U88 R Z37<|Jb3 R I37 (aP.ld 1 R R)<|Jd3 R U88 R Z2<|Jb3 R I2 (aP.ld 0 R R)<|Ob h λeW eD h=>?_
 have bV:=bb.stp (T14 V S j p q G H I J u y A g i)
 have bW:=ea.stp (g.tr i)
 refine Jr3 R C134 (rY (κ:=Mk bh) (Ji3 bV) (Ji3 bW) eD) ?_
 rintro _ fR ⟨fx,fm,ff,rfl,dm,dA⟩
 obtain⟨cE,e,eF⟩:=Ji dm 13 R
 refine Tv<|Jb 1 R<|Je [1,2] R<|Jx3 (κ:=cE) (E:=E6) 16 R Y37 a8 R λc8 dj cz aV d dB=>Tv<|Jb 1 R<|Jq<|Je3 R<|Ob h λcp em cb=>?_
 clear h
 refine Jo3 [1,3,6,13,14,15] (λE L w'=>∃κ',∃W:(List Place)×(List Int)×Int,∃av aE a5 a3,L=(12,.slice av W.1.length aE)::(17,.slice a5 W.2.1.length a3)::E/\Stp [7,16,19,20] aV cz κ' w'/\Oc (Ep.fz Place.rp) 88 κ' w' 7 av aE W.1/\Oc E6 2 κ' w' 16 a5 a3 W.2.1/\cp=eg W) ?_ ?_
 refine Jv<|Jp3 [1,3,6,13,14,15,16] (λk E L w'=>∃κ',∃f:(List Place)×(List Int)×Int,∃af ag ar aD,L=(12,.slice af f.1.length ag)::(17,.slice ar f.2.1.length aD)::(18,vi f.2.2)::E/\Stp [7,16,19,20] aV cz κ' w'/\Oc (Ep.fz Place.rp) 88 κ' w' 7 af ag f.1/\Oc E6 2 κ' w' 16 ar aD f.2.1/\bU (eU p0 eV eW) k f=some cp) ⟨_,_,⟨aV,(c.1,(([]:List Int):(List Int)),(0:Int)),ai,am,c8,dj,R,Jj3,(aO.stp<|T4 g i e d),dB,em⟩,(KM R)⟩ ?_
 rintro k _ fT ⟨bj,f,af,ag,ar,aD,rfl,M,aQ,bY,h⟩
 rcases k with _ | k
 cases h
 obtain⟨fJ,h,bd⟩:=BI h;unfold eU at h
 refine Jq<|Jg3 [2,2,1,2,1,2,1,2,2] 1 R<|Jd3 R U75 R Z31 ?_
 have b0:=aR.stp (T15 j p q G H I J u y A g i e d M)
 refine Jb3 R I31 (b0.ld 1 R R)<|Jd3 R U88 R Z2 ?_
 have b1:=aP.stp (T3 e d M)
 refine Jb3 R I2 (b1.ld 0 R R)<|Ob h λeX cg h=>Jc3 R a7 cg U31 Z37 ?_
 have a9:=a7.stp (T15 j p q G H I J u y A g i e d M)
 obtain⟨e3,fM,fo,ej⟩:=a9.gSl cg
 refine Jb3 R I37 ej<|Jn3 R U37 R R<|Jb 1 R ?_
 revert h
 cases fr:decide (f.2.2<(eX.length:Int))
 refine JF λh=>Jy R<|Jc1<|Jt<|Jt ?_
 cases h
 have h:=bd
 refine Jb1 ?_
 cases h
 exact Jw1 _ ⟨bj,(f.1,f.2.1,f.2.2),af,ag,ar,aD,R,M.wk R,aQ,bY,R⟩<|KM R
 refine JT λh=>Jx R<|Js<|Jp<|Jq<|Jv<|Je [2,1,2,1,2,1,2,2,1,2] R<|Jd3 R U75 R Z31<|Jb3 R I31 (b0.ld 1 R R)<|Jd3 R U88 R Z2<|Jb3 R I2 (b1.ld 0 R R)<|Ob h λgv ch h=>Jc3 R a9 ch U31 Z37 ?_
 obtain⟨e4,fN,b2,ek⟩:=a9.gSl ch
 refine Jb3 R I37 ek<|Jn 1 R<|Ob h λaU ci h=>Jc3 R b2 ci U37 Z2<|Jb3 R I2 (b2.gInt ci)<|Jb 1 R<|Jg3 [2,2,2,1,2] 3 R<|Ob h λcD eE h=>?_
 have b3:=(dA.mx (bX _) eF R (R:13+2=15)).stp (d.tr M)
 refine Jr3 R C135 (rX (κ:=Mk bj) (Ji3 aQ.rdc) (Ji3 b3.rdc) eE) ?_
 rintro _ eK ⟨fz,rfl,dp⟩
 obtain⟨aq,T,fE⟩:=Ji dp 17 R
 refine Tv<|Jb 1 R<|Jq<|Je3 R<|Ob h λeI h cc=>Jo3 [1,3,6,13,14,15,16,17,18] (λE L w'=>∃κ',∃X:(List Place)×Int,∃aI aw,L=(12,.slice aI X.1.length aw)::(20,vi X.2)::E/\Stp [7,19,20] aq eK κ' w'/\Oc (Ep.fz Place.rp) 88 κ' w' 7 aI aw X.1/\eI=eg X) ?_ ?_
 revert h
 cases fs:decide (cD<0)
 refine JF λh=>Jy R<|Js ?_
 cases h
 exact Jw1 _ ⟨aq,(f.1,cD),af,ag,R,Jj3,(aQ.stp T),R⟩<|KM R
 refine JT λh=>Jx R<|Jg3 [2,2,2] 1 R<|Jn3 R U80 R R<|Jb 1 R<|Jq<|Je3 R ?_
 revert h
 cases ft:decide (256<=(f.1.length:Int))
 refine JF λh=>Jy R<|Js<|Jp<|Jh3 [2,2,1,2,1,2,1,1,2] 2 R<|Jx3 (κ:=aq) (E:=E6) 19 R Y37 a8 R λfj fa fX cG aZ dH=>Tv<|Jn 1 R<|Ob h λaS er h=>Jy3 (κ:=cG) (E:=E6) 19 [] R Y37 a8 R dH (Sl.srcP (co _) (b3.stp<|T.tr aZ).rdc) bZ er R λbI bN eL cH bA dI=>Tv<|Jf R (Ji4 [vi aU,.slice bI aS.length bN] R) ?_
 obtain⟨cI,bB,eY⟩:=kB cH eL 19
 refine Jw3 (κ:=cI) (E:=(Ep.fz Place.rp)) 20 [] (parts:=[(0,.tmp 112)]) (cells:=[vi aU,.slice bI aS.length bN]) (xs:=([(⟨aU,aS⟩:Place)]:List Place)) R Y80 jV R (Je4<|Place.mk_rel (x:=(⟨aU,aS⟩:Place))<|Sl.z1<|Sl.st eY dI.rdc) λfh e9 fY cK bC dJ=>Tv<|Ob h λeO es h=>Jy3 (κ:=cK) (E:=(Ep.fz Place.rp)) 7 [20] R Y80 jV R (aQ.stp<|T5 T aZ bA bB bC) dJ.src (cZ R) es R λdl df fZ cL c1 dK=>Tv<|Jc 1 R ?_
 cases h
 exact Jw1 _ ⟨cL,(eO,((f.1.length:Int):Int)),dl,df,R,(T5 aZ bA bB bC c1).wk R,dK,R⟩<|KM R
 refine JT λh=>Jx R<|Je [2,1,1,2,2] R<|Jf R (Ji4 [.slice none 0 0,.slice none 0 0,.slice none 0 0] R)<|Jx3 (κ:=aq) (E:=(Ep.fz Place.rp)) 19 R Y80 jV R λdi de fV bm bx dF=>Tv<|Jh4 (κ:=bm) 3 R Z79 R (ba.stp<|j.tr<|p.tr<|q.tr<|G.tr<|H.tr<|I.tr<|J.tr<|u.tr<|y.tr<|A.tr<|g.tr<|i.tr<|e.tr<|d.tr<|M.tr<|T.tr bx) R λfW bz dG=>Tv<|Jb 2 R<|Ju<|Jw<|Jq2 ?_
 cases h
 have h:=cc
 dsimp only[aft]at h
 refine Jw<|Ja1<|Jw<|Jw ?_
 cases h
 obtain rfl:=Option.some.inj bd
 have h:=yL cb
 refine Ja1<|Jq2<|Jw<|Ja1<|Jw<|Jw ?_
 cases h
 obtain rfl:=Option.some.inj bc
 have h:=yL cd
 refine Ja1<|Jq2<|Jw<|Ja2 (l:=[.cell 6 79,.tmp 7,.tmp 8]) V66 (ca R dG I79 Z79 R<|Jp2 R<|Jp2 R R) R ?_
 cases h
 exact⟨(λb=>ren [(19,5)]<|bm b),none,0,none,0,none,0,di,de,R,((hE.stp<|V.tr<|S.tr<|j.tr<|p.tr<|q.tr<|G.tr<|H.tr<|I.tr<|J.tr<|u.tr<|y.tr<|A.tr<|g.tr<|i.tr<|e.tr<|d.tr<|M.tr<|T.tr<|bx.tr bz).map (ren [(19,5)]) R R),Ow.nil,Ow.nil,Ow.nil,((dF.stp bz).map (ren [(19,5)]) R R)⟩
 rintro _ fU ⟨cF,X,aI,aw,rfl,bw,dE,rfl⟩
 have h:=yI cc
 refine Jp<|Jh3 [2,2,1,1,2] 2 R<|Jd4 (κ:=cF) 19 [X.2] R Y37 a8 R λfg e8 f0 cM a0 dL=>Tv<|Ob h λeP et h=>Jy3 (κ:=cM) (E:=E6) 16 [] R Y37 a8 R (bY.stp<|T3 T bw a0) (Sl.srcP (co _) dL.rdc) bZ et R λc5 db f1 cN bD dM=>Tv<|Jc 1 R<|Jz<|Jp<|Jf3 R ?_
 cases h
 exact Jz1 λa ha=>⟨k,_,Ja3 _,⟨cN,(X.1,eP,((IntKind.i64.wrap<|f.2.2+1):Int)),aI,aw,c5,db,R,(T5 M T bw a0 bD).wk R,(dE.stp<|a0.tr bD),dM,bd⟩,(ha.mm R)⟩
 rintro _ fS ⟨bi,W,av,aE,a5,a3,rfl,B,dC,dD,rfl⟩
 have h:=yI cb
 refine Jp<|Jq<|Js1 (κ:=bi) [0,2,8,12] (some 13) [(0,2),(1,2),(3,2),(5,2),(2,0),(4,0),(6,0),(7,2),(8,0),(9,1),(10,1),(11,2),(12,2)] [(13,1)] (by kernel_rfl) (by kernel_rfl) λf3 m=>Jd3 R U79 R Z75<|Jd3 R U75 R Z37<|Jd3 R U75 R Z37<|Jd3 R U88 R Z2 ?_
 have b4:=bS.stp (T6 g i e d B m)
 refine Jg R (Jc2 I37 R R<|hvC (b4.ld 0 R R) R)<|Jg R (Jc2 I37 R R<|hvC ((aR.stp<|T16 j p q G H I J u y A g i e d B m).ld 0 R R) R) ?_
 have b5:=aP.stp (T4 e d B m)
 refine Jg R (Jc2 I2 R R<|hvC (b5.ld 0 R R) R)<|Ob h λeQ ce h=>Jc3 R a6 ce U37 Z2<|Jg R (Jc2 I2 R R<|hvC ((a6.stp<|T16 j p q G H I J u y A g i e d B m).gInt ce) R)<|Jd4 (κ:=bi) 17 [eQ] R Y37 a8 R λfk fi f4 cO n dN=>⟨(n.cl R),Ob h λap eu h=>Jy3 (κ:=cO) (E:=E6) 9 [] R Y37 a8 R (bP.stp<|T7 g i e d B m n) (Sl.srcP (co _) dN.rdc) bZ eu R λak ah f5 aW C dO=>⟨((n.tr C).cl R),Jd3 R U79 R Z75<|Jd3 R U75 R Z37<|Jt1<|Ju3 (κ:=aW) 8 (off:=0) (vc:=[.slice ak ap.length ah]) (cs':=[.slice ak ap.length ah,.slice al c.2.2.2.1.length ao,.slice aa c.2.2.2.2.length Z]) R Z37 R (b4.stp<|n.tr C) R λf6 N dP=>Tv<|Jd<|Jq<|Js1 (κ:=aW) [8] (some 9) [(0,2),(1,2),(3,2),(2,0),(4,1),(5,1),(6,1),(7,2),(8,2)] [(9,1)] (by kernel_rfl) (by kernel_rfl) λf7 D=>Jd3 R U79 R Z75<|Jd3 R U75 R Z31<|Jn 1 R ?_⟩⟩
 have b6:=dP.stp D
 refine Jg R (Jc2 I31 R R<|hvC (b6.ld 1 R R) R)<|Ob h λcC ev h=>Jr3 R C136 (p6 (κ:=Mk aW) (Ji3 (dD.stp<|T5 m n C N D).rdc) ev) ?_
 rintro _ f8 ⟨fB,dg,dh,rfl,dr,dQ⟩
 obtain⟨cQ,o,eG⟩:=Ji dr 18 R
 refine⟨(o.cl R),Jw3 (κ:=cQ) (E:=(Ep.own E6 2)) 21 [20] (parts:=[(0,.tmp 136)]) (cells:=[.slice dg cC.length dh]) (xs:=([cC]:List (List Int))) R Y31 bT R (Je4 ⟨_,_,R,(dQ.mx (bX _) eG R (R:18+2=20))⟩) λfd fb f9 cR t dR=>⟨((o.tr t).cl R),Ob h λaT ew h=>Jy3 (κ:=cR) (E:=(Ep.own E6 2)) 10 [21] R Y31 bT R (bQ.stp<|T12 g i e d B m n C N D o t) dR.src (cZ R) ew R λaL aC ga aX O dS=>⟨((T3 o t O).cl R),Jd3 R U79 R Z75<|Jd3 R U75 R Z31<|Jt1<|Ju3 (κ:=aX) 8 (off:=1) (vc:=[.slice aL aT.length aC]) (cs':=[.slice ak ap.length ah,.slice aL aT.length aC,.slice aa c.2.2.2.2.length Z]) R Z31 R (b6.stp<|T3 o t O) R λgb U dT=>Tv<|Jd<|Js1 (κ:=aX) [8,12] (some 11) [(0,2),(2,2),(3,2),(5,2),(1,0),(4,0),(6,0),(7,1),(8,1),(9,1),(10,2)] [(11,1)] (by kernel_rfl) (by kernel_rfl) λgc P=>Jd3 R U79 R Z37<|Jn 1 R<|Jd3 R U88 R Z37<|Jd3 R U88 R Z2 ?_⟩⟩⟩
 have b7:=dT.stp P
 refine Jg R (Jc2 I37 R R<|hvC (b7.ld 2 R R) R) ?_
 have b8:=b5.stp (T9 n C N D o t O U P)
 have bu:=(T13 e d B m n C N D o t O U P)
 refine Jg R (Jc2 I37 R R<|hvC (b8.ld 1 R R) R)<|Jg R (Jc2 I2 R R<|hvC (b8.ld 0 R R) R)<|Ob h λeR ex h=>Jr3 R C137 (rZ (κ:=Mk aX) (Ji3<|bV.stp bu) (Ji3<|bW.stp bu) ex) ?_
 rintro _ gd ⟨fC,rfl,ds⟩
 obtain⟨cS,F,fH⟩:=Ji ds 22 R
 refine⟨(F.cl R),Jd4 (κ:=cS) 24 [eR] R Y37 a8 R λfc fe ge cT Q dU=>⟨((F.tr Q).cl R),Ob h λbf ey h=>Jy3 (κ:=cT) (E:=E6) 11 [] R Y37 a8 R (bR.stp<|g.tr<|i.tr<|e.tr<|d.tr<|B.tr<|m.tr<|n.tr<|C.tr<|N.tr<|D.tr<|o.tr<|t.tr<|O.tr<|U.tr<|P.tr<|F.tr Q) (Sl.srcP (co _) dU.rdc) bZ ey R λa2 a4 gf bn Y dV=>⟨((T3 F Q Y).cl R),Jd3 R U79 R Z37<|Jt1<|Ju3 (κ:=bn) 8 (off:=2) (vc:=[.slice a2 bf.length a4]) (cs':=[.slice ak ap.length ah,.slice aL aT.length aC,.slice a2 bf.length a4]) R Z37 R (b7.stp<|T3 F Q Y) R λgg ad dW=>Tv<|Jo<|Jz<|Jp<|Jf3 R ?_⟩⟩⟩
 cases h
 exact Jz1 λa ha=>⟨k,_,Ja3 _,⟨bn,(W.1,((IntKind.i64.wrap<|c.2.1+1):Int),ap,aT,bf),av,aE,ak,ah,aL,aC,a2,a4,R,(A.tr<|g.tr<|i.tr<|e.tr<|d.tr<|B.tr<|m.tr<|n.tr<|C.tr<|N.tr<|D.tr<|o.tr<|t.tr<|O.tr<|U.tr<|P.tr<|F.tr<|Q.tr<|Y.tr ad).wk R,(dC.stp<|T14 m n C N D o t O U P F Q Y ad),(dO.stp<|T11 N D o t O U P F Q Y ad),(dS.stp<|T6 U P F Q Y ad),(dV.stp ad),dW,bc⟩,(ha.mm R)⟩
 rintro _ gs ⟨bs,z,az,aK,aH,ay,ax,aJ,aG,aA,rfl,bv,du,dv,dw,dx,dy,rfl⟩
 have h:=yI cd
 refine Jp<|Je [1,2,1,2,2] R<|Jb4 tv R (Jc4 (haE dy.cells) I79 Z79 R)<|Jn 1 R<|Jh4 (κ:=bs) 3 R Z79 R (ba.stp<|T10 j p q G H I J u y bv) R λgh ae dZ=>Tv<|Jb 2 R<|Ju<|Ja2 (l:=[.cell 6 79,.tmp 7,.tmp 8]) V66 (ca R dZ I79 Z79 R<|Jp2 R<|Jp2 R R) R ?_
 cases h
 exact⟨(λb=>ren [(9,2),(10,3),(11,4),(7,5)]<|bs b),aH,ay,ax,aJ,aG,aA,az,aK,R,((hE.stp<|T13 V S j p q G H I J u y bv ae).map (ren [(9,2),(10,3),(11,4),(7,5)]) R R),((dv.stp ae).map (ren [(9,2),(10,3),(11,4),(7,5)]) R R),((dw.stp ae).map (ren [(9,2),(10,3),(11,4),(7,5)]) R R),((dx.stp ae).map (ren [(9,2),(10,3),(11,4),(7,5)]) R R),((du.stp ae).map (ren [(9,2),(10,3),(11,4),(7,5)]) R R)⟩
 refine JT λh=>Jx R<|Je [2,1,1,2,2] R<|Jf R (Ji4 [.slice none 0 0,.slice none 0 0,.slice none 0 0] R)<|Jx3 (κ:=bp) (E:=(Ep.fz Place.rp)) 6 R Y80 jV R λc6 bk gk bq bE d1=>Tv<|Jh4 (κ:=bq) 3 R Z79 R (ba.stp<|T4 j p q bE) R λgm bF d2=>Tv<|Jb 2 R<|Ju<|Jw<|Ja2 (l:=[.cell 6 79,.tmp 7,.tmp 8]) V66 (ca R d2 I79 Z79 R<|Jp2 R<|Jp2 R R) R ?_
 cases h
 exact⟨(λb=>ren [(6,5)]<|bq b),none,0,none,0,none,0,c6,bk,R,((hE.stp<|T7 V S j p q bE bF).map (ren [(6,5)]) R R),Ow.nil,Ow.nil,Ow.nil,((d1.stp bF).map (ren [(6,5)]) R R)⟩
theorem tq {ay aM aL aK aI aJ}{p0:Parity}{a1 a6}{p1:(List Int)}(b1:Rd (Rp.int .i64) κ w 0 ay aM p0.Arena.Owner) (b2:Rd (Rp.sl (Rp.int .i64)) κ w 0 aL aK p0.Arena.Next) (b3:Rd (Rp.int .i64) κ w 0 aI aJ p0.Prio) (ah:Rd (Rp.int .i64) κ w 0 a1 a6 p1){r:Parity×Bool}(h:mt p0 p1=some r):Ret Tryz.prog 251 [.agg #[.slice ay p0.Arena.Owner.length aM,.slice aL p0.Arena.Next.length aK,.slice aI p0.Prio.length aJ],.slice a1 p1.length a6] w (λv w'=>∃(κ':Col) (aZ:Option Addr) (a3:Nat) (a0:Option Addr) (a4:Nat) (a2:Option Addr) (a5:Nat),v= .tuple #[.agg #[.slice aZ r.1.Arena.Owner.length a3,.slice a0 r.1.Arena.Next.length a4,.slice a2 r.1.Prio.length a5],.bool r.2]/\Ent κ w κ' w'/\Oc E6 2 κ' w' 2 aZ a3 r.1.Arena.Owner/\Oc (Ep.own E6 2) 37 κ' w' 3 a0 a4 r.1.Arena.Next/\Oc E6 2 κ' w' 4 a2 a5 r.1.Prio):=by
 unfold mt at h
 refine Jk3 κ F251 R N251 R λhE=>Je [1,1,2] R<|Js3 (κ:=κ) 2 R λcz w1 be t bN=>Tv<|Jt3 (κ:=be) 3 R X79 R λcA c5 bf p aS=>Tv<|Jb 1 R<|Jq<|Je [1,1,2,2,1,2,1,2,2] R ?_
 have ag:=bN.stp p
 refine Jb4 tv R (Jc4 (haE ag.cells) I79 Z79 R)<|Ob h λcs cd h=>?_
 have ae:=b1.stp (t.tr p)
 have af:=b2.stp (t.tr p)
 have N:=b3.stp (t.tr p)
 refine Jr3 R C138 (nf (κ:=Mk bf) (p0:=p0) (Ji3 ae) (Ji3 af) (Ji3 N) cd) ?_
 rintro _ cp ⟨cH,rfl,br⟩
 obtain⟨aA,c,cN⟩:=Ji br 4 R
 refine Tv<|Jn 2 R<|Ob h λaX h b6=>Jf4 [1,2,4] 17 aX aA cp [(4,1),(5,2),(6,1),(7,2),(8,2)] [] tv ?_ ?_
 revert h
 cases cD:(!cs)
 refine JF λh=>Jb4 tv R (Jc4 (haE (ag.stp c).cells) I79 Z79 R)<|Jn 1 R<|Ob h λde ce h=>Jr3 R C273 (sj (κ:=Mk aA) (p0:=p0) (Ji3<|ae.stp c) (Ji3<|af.stp c) (Ji3<|N.stp c) (Ji3<|ah.stp<|T3 t p c) ce) ?_
 rintro _ c3 ⟨cJ,rfl,bt⟩
 obtain⟨cv,bj,cO⟩:=Ji bt 6 R
 refine Tv<|Jn 2 R ?_
 cases h
 exact Jv1 _ tv ⟨R,_,bj.wk R⟩<|KM R
 refine JT λh=>Jz3 R<|Jn 1 R<|Jz3 R<|Jn 2 R ?_
 cases h
 exact Jg4 tv R
 rintro _ cr _ ⟨rfl,A,f⟩
 have h:=b6
 refine Jd ?_
 revert h
 cases cE:aX
 refine JF λh=>Jy R<|Js<|Jp<|Jq<|Ob h λd aT h=>Ob h λe au h=>Jo3 [1,2,4] (λE L w'=>∃κ' i z u W ad y x,L=(6,.pointer (some ⟨i,0,none⟩))::E/\Stp [6,8,9,11,12] A cr κ' w'/\Oc E6 2 κ' w' 6 z u (((⟨(⟨d,([]:List (List Int))⟩:Arena),e⟩:Parity).Arena).Owner)/\Oc (Ep.own E6 2) 37 κ' w' 7 W ad (((⟨(⟨d,([]:List (List Int))⟩:Arena),e⟩:Parity).Arena).Next)/\Oc E6 2 κ' w' 8 y x ((⟨(⟨d,([]:List (List Int))⟩:Arena),e⟩:Parity).Prio)/\Bc κ' w' 9 i 79 [.slice z (((⟨(⟨d,([]:List (List Int))⟩:Arena),e⟩:Parity).Arena).Owner).length u,.slice W (((⟨(⟨d,([]:List (List Int))⟩:Arena),e⟩:Parity).Arena).Next).length ad,.slice y ((⟨(⟨d,([]:List (List Int))⟩:Arena),e⟩:Parity).Prio).length x]) ?_ ?_
 refine WC.rxt (κ:=A) [2] none (by kernel_rfl) λc6 m=>Jq1 (fuel:=6) [(0,2),(1,2),(5,2),(2,0),(6,0)] (by kernel_rfl) (by kernel_rfl) R<|Jd3 R U79 R Z75<|Jd3 R U75 R Z37<|Jd3 R U79 R Z37 ?_
 have aQ:=ag.stp (T3 c f m)
 refine Jg R (Jc2 I37 R R<|hvC (aQ.ld 0 R R) R)<|Jg R (Jc2 I37 R R<|hvC (aQ.ld 2 R R) R)<|Jp1<|WA.fork2 (fuel:=5) 3 9 (by kernel_rfl) R ?_ ?_
 refine Jr3 R C131 (dF (κ:=Mk A) (Ji3<|ae.stp<|T3 c f m) aT) ?_
 rintro _ c7 ⟨cK,o,n,rfl,bu,bU⟩
 obtain⟨aC,g,ck⟩:=Ji bu 6 R
 refine⟨(g.cl R),?_⟩
 have aR:=bU.mx (bX _) ck R (R:6+2=8)
 refine Jp1<|Jq1 (fuel:=4) [(4,2)] (by kernel_rfl) (by kernel_rfl) R<|Jf R (Ji4 [.slice o d.length n,.slice none 0 0] R)<|Jp1<|WA.fork2 (fuel:=3) 7 9 (by kernel_rfl) R ?_ ?_
 refine Jr3 R C131 (dF (κ:=Mk aC) (Ji3<|N.stp<|T4 c f m g) au) ?_
 rintro _ c8 ⟨cL,q,s,rfl,bv,bV⟩
 obtain⟨bg,J,cl⟩:=Ji bv 9 R
 exact⟨((g.tr J).cl R),Jp1<|Jq1 (fuel:=0) [(8,2),(9,1),(10,1)] (by kernel_rfl) (by kernel_rfl) R<|Jf R (Ji4 [.slice o d.length n,.slice none 0 0,.slice q e.length s] R)<|Jt3 (κ:=bg) 12 R X79 R λi c9 aD K bW=>⟨((T3 g J K).cl R),Jh4 (κ:=aD) 12 R Z79 R bW R λda U bY=>⟨((T4 g J K U).cl R),Jp1<|Jr1 [] (by kernel_rfl) (by kernel_rfl) R<|Jo<|Jw1 _ ⟨(λb=>ren [(8,6),(11,8),(12,9)]<|aD b),i,o,n,none,0,q,s,R,(Jy2 ((T5 m g J K U).wk R) [(8,6),(11,8),(12,9)] R),((aR.stp<|T3 J K U).map (ren [(8,6),(11,8),(12,9)]) R R),Ow.nil,(((bV.mx (bX _) cl R (R:9+2=11)).stp (K.tr U)).map (ren [(8,6),(11,8),(12,9)]) R R),(bY.map (ren [(8,6),(11,8),(12,9)]) R R)⟩<|KM R⟩⟩⟩
 refine Jt3 (κ:=aC) 9 R X79 R λi db bh C bZ=>⟨((g.tr C).cl R),Jp1<|Jq1 (fuel:=0) [(7,1),(8,2),(10,1)] (by kernel_rfl) (by kernel_rfl) R<|Jr3 R C131 (dF (κ:=Mk bh) (Ji3<|N.stp<|T5 c f m g C) au) ?_⟩
 rintro _ dc ⟨cM,q,s,rfl,bw,b0⟩
 obtain⟨aE,M,cm⟩:=Ji bw 10 R
 exact⟨((T3 g C M).cl R),Jf R (Ji4 [.slice o d.length n,.slice none 0 0,.slice q e.length s] R)<|Jh4 (κ:=aE) 9 R Z79 R (bZ.stp M) R λdd V bx=>⟨((T4 g C M V).cl R),Jp1<|Jr1 [] (by kernel_rfl) (by kernel_rfl) R<|Jo<|Jw1 _ ⟨(λb=>ren [(8,6),(12,8)]<|aE b),i,o,n,none,0,q,s,R,(Jy2 ((T5 m g C M V).wk R) [(8,6),(12,8)] R),((aR.stp<|T3 C M V).map (ren [(8,6),(12,8)]) R R),Ow.nil,(((b0.mx (bX _) cm R (R:10+2=12)).stp V).map (ren [(8,6),(12,8)]) R R),(bx.map (ren [(8,6),(12,8)]) R R)⟩<|KM R⟩⟩
 refine Jt3 (κ:=A) 6 R X79 R λi cQ a9 B bz=>⟨(B.cl R),Jp1<|Jq1 (fuel:=0) [(3,1),(4,2),(7,1),(8,2),(10,1)] (by kernel_rfl) (by kernel_rfl) R<|Jr3 R C131 (dF (κ:=Mk a9) (Ji3<|ae.stp<|T4 c f m B) aT) ?_⟩
 rintro _ cR ⟨cF,o,n,rfl,bp,bA⟩
 obtain⟨ba,G,ch⟩:=Ji bp 7 R
 refine⟨((B.tr G).cl R),Jf R (Ji4 [.slice o d.length n,.slice none 0 0] R)<|Jr3 R C131 (dF (κ:=Mk ba) (Ji3<|N.stp<|T5 c f m B G) au) ?_⟩
 rintro _ cS ⟨cG,q,s,rfl,bq,bB⟩
 obtain⟨aw,O,ci⟩:=Ji bq 10 R
 have aF:=(T3 B G O)
 exact⟨(aF.cl R),Jf R (Ji4 [.slice o d.length n,.slice none 0 0,.slice q e.length s] R)<|Jh4 (κ:=aw) 6 R Z79 R (bz.stp<|G.tr O) R λcT P bC=>⟨((aF.tr P).cl R),Jp1<|Jr1 [] (by kernel_rfl) (by kernel_rfl) R<|Jo<|Jw1 _ ⟨(λb=>ren [(9,6),(12,8),(6,9)]<|aw b),i,o,n,none,0,q,s,R,(Jy2 ((T5 m B G O P).wk R) [(9,6),(12,8),(6,9)] R),(((bA.mx (bX _) ch R (R:7+2=9)).stp (O.tr P)).map (ren [(9,6),(12,8),(6,9)]) R R),Ow.nil,(((bB.mx (bX _) ci R (R:10+2=12)).stp P).map (ren [(9,6),(12,8),(6,9)]) R R),(bC.map (ren [(9,6),(12,8),(6,9)]) R R)⟩<|KM R⟩⟩
 rintro _ a7 ⟨al,i,z,u,W,ad,y,x,rfl,I,bP,bQ,bR,bS⟩
 refine Jp<|Jq<|Je3 R ?_
 have b7:(p1.length:Int)<=9223372036854775807:=ah.len_le
 refine Ob h λaY cb b4=>?_
 clear h
 refine Jo3 [4,6] (λE L w'=>∃κ',∃aj:(List<|List Int),∃Y ac,L=E/\Stp [7,9,12,13] al a7 κ' w'/\Oc (Ep.own E6 2) 37 κ' w' 7 Y ac aj/\Bc κ' w' 9 i 79 [.slice z (((⟨(⟨d,([]:List (List Int))⟩:Arena),e⟩:Parity).Arena).Owner).length u,.slice Y aj.length ac,.slice y ((⟨(⟨d,([]:List (List Int))⟩:Arena),e⟩:Parity).Prio).length x]/\aY=eg aj) ?_ ?_
 refine Jv<|Jp3 [1,2,4,6] (λk E L w'=>∃κ' j,∃F:(List<|List Int),∃ab Z,L=(7,vi j)::E/\Stp [7,9,12,13] al a7 κ' w'/\Oc (Ep.own E6 2) 37 κ' w' 7 ab Z F/\Bc κ' w' 9 i 79 [.slice z (((⟨(⟨d,([]:List (List Int))⟩:Arena),e⟩:Parity).Arena).Owner).length u,.slice ab F.length Z,.slice y ((⟨(⟨d,([]:List (List Int))⟩:Arena),e⟩:Parity).Prio).length x]/\0<=j/\Int.toNat ((p1.length:Int)-j)=k/\cntM (jv p0 p1) k j F=some aY) ⟨_,_,⟨al,0,(((⟨(⟨d,([]:List (List Int))⟩:Arena),e⟩:Parity).Arena).Next:(List<|List Int)),W,ad,R,Jj3,bQ,bS,(by decide),(by simp),cb⟩,(KM R)⟩ ?_
 rintro k _ cV ⟨az,j,F,ab,Z,rfl,H,aN,aO,b8,cB,h⟩
 rcases k with _ | k
 have aq:=h;obtain⟨co,h⟩:=cn (eg (Sum.inl F):(Parity×Bool)⊕(((List (List Int)))⊕((List (List Int)))))
 have D:decide (j<(p1.length:Int))=false:=Jo2 (by omega)
 refine Jq<|Jg3 [2,2,2,2] 2 R<|Jn3 R U37 R R<|Jb 1 R<|Jw2 R D<|Jc1<|Jt<|Jt ?_
 cases h
 have h:=aq
 refine Jb1 ?_
 cases h
 exact Jw1 _ ⟨az,F,ab,Z,R,H.wk R,aN,aO,R⟩<|KM R
 obtain⟨co,h,aq⟩:=BI h;unfold jv at h
 have D:decide (j<(p1.length:Int))=true:=Jn2 (by omega)
 refine Jq<|Jg3 [2,2,2,2] 2 R<|Jn3 R U37 R R<|Jb 1 R<|Jv2 R D<|Js<|Jp<|Jq<|Jv<|Je [2,2,1,2,2,1,1,2] R<|Jd3 R U79 R Z75<|Jd3 R U75 R Z31<|Jb3 R I31 ((ag.stp<|T4 c f I H).ld 1 R R)<|Jn 1 R<|Ob h λdf aU h=>Jc3 R af aU U31 Z37 ?_
 obtain⟨cy,cP,bF,b9⟩:=(af.stp (T4 c f I H)).gSl aU
 refine Jb3 R I37 b9<|Ob h λdg cf h=>Jr3 R C131 (dF (κ:=Mk az) (Ji3 bF) cf) ?_
 rintro _ cq ⟨cI,bo,bl,rfl,bs,bG⟩
 obtain⟨ak,S,cj⟩:=Ji bs 10 R
 refine Tv<|Jb 1 R<|Jq<|Jg3 [2,2,2,1,2] 2 R<|Ob h λct aV h=>Jc3 R ah aV U37 Z2 ?_
 have ap:=ah.stp (T7 t p c f I H S)
 refine Jb3 R I2 (ap.gInt aV)<|Jb 1 R<|Ob h λai h b5=>Jo3 [1,2,4,6,7] (λE L w'=>∃κ' X aa,L=(8,.slice X ai.length aa)::E/\Stp [13] ak cq κ' w'/\Oc E6 2 κ' w' 12 X aa ai) ?_ ?_
 revert h
 cases cC:decide (0<=ct)
 refine JF λh=>Jy R<|Js ?_
 cases h
 exact Jw1 _ ⟨ak,bo,bl,R,Jj3,(bG.mx (bX _) cj R (R:10+2=12))⟩<|KM R
 refine JT λh=>Jx R<|Jh3 [2,2,2,1,1,2] 2 R<|Ob h λcu aW h=>Jc3 R ap aW U37 Z2<|Jb3 R I2 (ap.gInt aW)<|Jd4 (κ:=ak) 13 [cu] R Y37 a8 R λbm bn cX bc bi bI=>Tv<|Jc 1 R ?_
 cases h
 exact Jw1 _ ⟨(λb=>ren [(13,12)]<|bc b),bm,bn,R,(Jy2 (bi.wk R) [(13,12)] R),(bI.map (ren [(13,12)]) R R)⟩<|KM R
 rintro _ cW ⟨bb,X,aa,rfl,am,bH⟩
 have h:=b5
 refine Jp<|Ja [2,2,1,2,1,1,2,2,1] R<|Jd3 R U79 R Z75<|Jd3 R U75 R Z31 ?_
 have aP:=aO.stp (S.tr am)
 refine Jb3 R I31 (aP.ld 1 R R)<|Jn 1 R<|Jw3 (κ:=bb) (E:=(Ep.own E6 2)) 13 [12] (parts:=[(0,.tmp 54)]) (cells:=[.slice X ai.length aa]) (xs:=([ai]:List (List Int))) R Y31 bT R (Je4 ⟨_,_,R,bH⟩) λcw cx cY bd an bJ=>Tv<|Ob h λav cg h=>Jy3 (κ:=bd) (E:=(Ep.own E6 2)) 7 [13] R Y31 bT R (aN.stp<|T3 S am an) bJ.src (cZ R) cg R λao ar c0 aB aG bK=>Tv<|Jd3 R U79 R Z75<|Jd3 R U75 R Z31<|Ju3 (κ:=aB) 9 (off:=1) (vc:=[.slice ao av.length ar]) (cs':=[.slice z (((⟨(⟨d,([]:List (List Int))⟩:Arena),e⟩:Parity).Arena).Owner).length u,.slice ao av.length ar,.slice y ((⟨(⟨d,([]:List (List Int))⟩:Arena),e⟩:Parity).Prio).length x]) R Z31 R (aP.stp<|an.tr aG) R λc1 aH bL=>Tv<|Jo<|Jz<|Jp<|Jf3 R ?_
 have cc:IntKind.wrap .i64 (j+1)=j+1:=wr1 b8 (Jm2 D) b7
 rw[cc]
 have D:=Jm2 D
 cases h
 exact Jz1 λa ha=>⟨k,_,Ja3 _,⟨aB,j+1,av,ao,ar,R,(T6 H S am an aG aH).wk R,(bK.stp aH),bL,by omega,by omega,aq⟩,(ha.mm R)⟩
 rintro _ cU ⟨ax,aj,Y,ac,rfl,Q,bD,bE,rfl⟩
 have h:=yI b4
 refine Jp<|Je [1,1,2] R<|Jb4 tv R (Jc4 (haE bE.cells) I79 Z79 R)<|Jh4 (κ:=ax) 3 R Z79 R (aS.stp<|T4 c f I Q) R λc2 T bM=>Tv<|Jb 1 R<|Ju<|Ja2 (l:=[.cell 4 79,.tmp 5]) V251 (ca R bM I79 Z79 R<|Jp2 R R) R ?_
 cases h
 exact⟨(λb=>ren [(6,2),(7,3),(8,4)]<|ax b),z,u,Y,ac,y,x,R,((hE.stp<|T7 t p c f I Q T).map (ren [(6,2),(7,3),(8,4)]) R R),((bP.stp<|Q.tr T).map (ren [(6,2),(7,3),(8,4)]) R R),((bD.stp T).map (ren [(6,2),(7,3),(8,4)]) R R),((bR.stp<|Q.tr T).map (ren [(6,2),(7,3),(8,4)]) R R)⟩
 refine JT λh=>Jx R<|Je [2,1,2] R<|Jf R (Ji4 [.slice none 0 0,.slice none 0 0,.slice none 0 0] R)<|Jh4 (κ:=A) 3 R Z79 R (aS.stp<|c.tr f) R λc4 bk bO=>Tv<|Jb 1 R<|Ju<|Jw<|Ja2 (l:=[.cell 4 79,.tmp 5]) V251 (ca R bO I79 Z79 R<|Jp2 R R) R ?_
 cases h
 exact⟨A,none,0,none,0,none,0,R,(hE.stp<|T5 t p c f bk),Ow.nil,Ow.nil,Ow.nil⟩
theorem tB {G K J D M F H I j i}{p0:l7Game}{a1 ad}{p1:(List Bool)}{p2:Int}(S:Rd (Rp.int .i64) κ w 0 G K p0.owner) (ak:Rd (Rp.int .i64) κ w 0 J D p0.prio) (T:Rd (Rp.sl (Rp.int .i64)) κ w 0 M F p0.next) (al:Rd (Rp.sl (Rp.int .i64)) κ w 0 H I p0.prev) (am:Oc E6 2 κ w 2 j i p0.pick) (U:Rd Rp.bool κ w 0 a1 ad p1){r:Int×(List Int)}(h:mD p0 p1 p2=some r):Ret Tryz.prog 203 [.agg #[.slice G p0.owner.length K,.slice J p0.prio.length D,.slice M p0.next.length F,.slice H p0.prev.length I,.slice j p0.pick.length i],.slice a1 p1.length ad,vi p2] w (λv w'=>∃(κ':Col),v=vi r.1/\Ent κ w κ' w'/\Oc E6 2 κ' w' 2 j i r.2/\p0.pick.length=r.2.length):=by
 unfold mD at h
 refine Jk3 κ F203 R N203 R λhE=>Je [1,2] R<|Js3 (κ:=κ) 3 R λaA w1 u e aj=>Tv<|Jb 1 R<|Jq<|Je3 R<|Ob h λac aq V=>?_
 clear h
 refine Jx1 (λL w'=>∃κ',∃s:Int×(List Int),L=[]/\Stp [2] u w1 κ' w'/\Oc E6 2 κ' w' 2 j i s.2/\p0.pick.length=s.2.length/\ac=eg s) ?_ ?_
 refine Jv<|Jp3 [1,2,3] (λk E L w'=>∃κ',∃b:Int×(List Int),L=(7,vi b.1)::E/\Stp [2] u w1 κ' w'/\Oc E6 2 κ' w' 2 j i b.2/\p0.pick.length=b.2.length/\bU (jI p0 p1 p2) k b=some ac) ⟨_,_,⟨u,((0:Int),p0.pick),R,Jj3,(am.stp e),R,aq⟩,(KM R)⟩ ?_
 rintro k _ aK ⟨t,b,rfl,c,m,q,h⟩
 rcases k with _ | k
 cases h
 obtain⟨aH,h,p⟩:=BI h;unfold jI at h
 refine Jq<|Jg3 [2,2,1,2,2,1,2,2] 1 R<|Jd3 R U210 R Z31 ?_
 have n:=aj.stp c
 refine Jb3 R I31 (n.ld 2 R R)<|Jn 1 R<|Ob h λav W h=>Jc3 R T W U31 Z37 ?_
 have o:=T.stp (e.tr c)
 obtain⟨ay,aI,aB,an⟩:=o.gSl W
 refine Jb3 R I37 an<|Jn3 R U37 R R<|Jb 1 R ?_
 revert h
 cases aC:decide (b.1<(av.length:Int))
 refine JF λh=>Jy R<|Jc1<|Jt<|Jt ?_
 cases h
 have h:=p
 refine Jb1 ?_
 cases h
 exact Jw1 _ ⟨t,(b.1,b.2),R,c.wk R,m,q,R⟩ KN
 refine JT λh=>Jx R<|Js<|Jp<|Jq<|Jv<|Je [2,1,2,2,1,2,2,1,2] R<|Jd3 R U210 R Z31<|Jb3 R I31 (n.ld 2 R R)<|Jn 1 R<|Ob h λaP X h=>Jc3 R o X U31 Z37 ?_
 obtain⟨az,aJ,N,ao⟩:=o.gSl X
 refine Jb3 R I37 ao<|Jn 1 R<|Ob h λaQ Y h=>Jc3 R N Y U37 Z2<|Jb3 R I2 (N.gInt Y)<|Jb 1 R<|Jq<|Jg3 [2,2,2,1,2] 2 R<|Ob h λaw Z h=>Jc3 R U Z U178 Z4 ?_
 have O:=U.stp (e.tr c)
 refine Jb3 R I4 (O.gBool Z)<|Jb 1 R ?_
 revert h
 cases aD:(!aw)
 refine JF λh=>Jy R<|Js<|Jp<|Je [2,1,2,2,2,1] R<|Jd3 R U210 R Z37<|Jb3 R I37 (n.ld 4 R R)<|Jn 2 R<|Ob h λaR ar h=>Jf R (Jf2 m.rdc ar U37 Z2 R R q R)<|Ob h λz ab h=>Jk1 (κ:=t) (E:=E6) 2 [] R R R R R R R R Z2 R R R R m ab λaL A f ai=>Tv<|?_
 have y:p0.pick.length=z.length:=q.trans (Jt2 ab).2.2.2.symm
 refine Jd<|Jq<|Js1 (κ:=A) [0,3] none [(1,2),(2,2),(4,2),(0,0),(3,0),(5,2),(6,0),(7,1)] [] (by kernel_rfl) (by kernel_rfl) λaM d=>Jn 1 R<|Jd3 R U210 R Z37<|Jn 1 R ?_
 have P:=n.stp (f.tr d)
 refine Jg R (Jc4 (haC P.cells R) I210 Z210 R)<|Jg R (Jc2 I37 R R<|hvC (P.ld 0 R R) R)<|Ob h λaS aa h=>Jc3 R S aa U37 Z2 ?_
 have Q:=S.stp (T4 e c f d)
 refine Jg R (Jc2 I2 R R<|hvC (Q.gInt aa) R)<|Ob h λax au h=>?_
 have x:=ai.stp d
 have C:=(T4 e c f d)
 refine Jr3 R C253 (Ret.cast (by simp only[y,List.cons_append,List.nil_append])<|sg (κ:=Mk A) (p0:=(⟨p0.owner,p0.prio,p0.next,p0.prev,z⟩:l7Game)) (Ji3 Q) (Ji3<|ak.stp C) (Ji3<|o.stp<|f.tr d) (Ji3<|al.stp C) (Ji3 x.rdc) (Ji3<|O.stp<|f.tr d) au) ?_
 rintro _ aN ⟨aF,rfl,ag⟩
 obtain⟨B,g,aG⟩:=Ji ag 4 R
 refine⟨(g.cl R),Jt1<|Jd ?_⟩
 revert h
 cases aE:ax
 refine JF λh=>Jy R<|Js<|Jz<|Jp<|Jf3 R ?_
 cases h
 exact Jz1 λa ha=>⟨k,_,Ja3 _,⟨B,(((IntKind.i64.wrap<|b.1+1):Int),z),R,(T4 c f d g).wk R,(x.stp g),y,p⟩,(ha.mm R)⟩
 refine JT λh=>Jx R<|Je3 R<|Ju<|Ja1<|Jw<|Jw ?_
 cases h
 obtain rfl:=Option.some.inj p
 have h:=yL V
 refine Ja1<|Jq2<|Jw<|Ja2 (l:=[.tmp 6]) V203 (Jp2 R R) R ?_
 cases h
 exact⟨B,R,(hE.stp<|T5 e c f d g),(x.stp g),y⟩
 refine JT λh=>Jx R<|Jc1<|Jt<|Jb1<|Jp<|Jf3 R ?_
 cases h
 exact Jz1 λa ha=>⟨k,_,Ja3 _,⟨t,(((IntKind.i64.wrap<|b.1+1):Int),b.2),R,c.wk R,m,q,p⟩,(ha.mm R)⟩
 rintro _ aO ⟨ae,s,rfl,af,ah,ap,rfl⟩
 have h:=yI V
 refine Jp<|Je3 R<|Ju<|Ja2 (l:=[.tmp 6]) V203 (Jp2 R R) R ?_
 cases h
 exact⟨ae,R,(hE.stp<|e.tr af),ah,ap⟩
end Go.Proofs.YtleekpaohfpooaaGreat
