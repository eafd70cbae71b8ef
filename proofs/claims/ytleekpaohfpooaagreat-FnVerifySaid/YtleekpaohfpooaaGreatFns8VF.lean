/- The walks, part 8. By program. -/
import Derived.Test.YtleekpaohfpooaaGreatFns7VF
set_option linter.unusedVariables false
set_option linter.unusedSimpArgs false
open Go.IntKind renaming wrap → bM
open Sum renaming inr → cb, inl → eg
open Int renaming toNat → hV
namespace Go.Proofs.YtleekpaohfpooaaGreat
open Go Go.Wk Go.Proofs
set_option maxRecDepth 100000
set_option maxHeartbeats 1000000
variable {w:World}{κ:Col}
theorem mZ {p0:Sig}{a1 z}{p1:(List Clause)}(p:Rd Clause.rp κ w 0 a1 z p1){r:Bool}(h:d9 p0 p1=some r):Ret Tryz.prog 75 [.agg #[vi p0.In,vi p0.Out],.slice a1 p1.length z] w (Pvb κ w r):=by
 unfold d9 at h
 refine Jk3 κ F75 R N75 R λq=>Je [1,2] R<|Js3 (κ:=κ) 2 R λac w1 B j t=>Tv<|Jb 1 R<|Jq<|Je [1,1,2,2,2,2,2,2] R<|Jb4 tv R (Jc4 (haE t.cells) I28 Z28 R)<|Ob h λZ U h=>Jr3 R C58 (iK (κ:=Mk B) (p0:=p0) U) ?_
 rintro _ W ⟨aj,rfl,H⟩
 obtain⟨D,f,ak⟩:=Ji H 3 R
 refine Tv<|Jn 2 R<|Ob h λx h K=>Jf4 [1,2] 13 x D W [(4,2),(5,2),(6,2),(7,2)] [] tv ?_ ?_
 revert h
 cases af:(!Z)
 refine JF λh=>Jn 1 R<|Jn3 R U29 R R<|Jn 2 R ?_
 cases h
 exact Jg4 tv R
 refine JT λh=>Jn 4 R ?_
 cases h
 exact Jg4 tv R
 rintro _ A _ ⟨rfl,g,d⟩
 have h:=K
 refine Jd ?_
 revert h
 cases ag:x
 refine JF λh=>Jy R<|Js<|Jp<|Jq<|Je3 R ?_
 have M:(p1.length:Int)<=9223372036854775807:=p.len_le
 refine Ob h λy P u=>?_
 clear h
 refine Jx1 (λL w'=>∃κ',L=[]/\Stp [] g A κ' w'/\y=cb ()) ?_ ?_
 refine Jv<|Jp3 [1,2] (λk E L w'=>∃κ' b,L=(5,vi b)::E/\Stp [] g A κ' w'/\0<=b/\hV ((p1.length:Int)-b)=k/\cntM (gC p0 p1) k b ()=some y) ⟨_,_,⟨g,0,R,Jj3,(by decide),(by simp),P⟩,(KM R)⟩ ?_
 rintro k _ ap ⟨n,b,rfl,e,N,ae,h⟩
 rcases k with _ | k
 have m:=h;obtain⟨V,h⟩:=cw (cb (eg ()):Bool⊕((Unit)⊕(Unit)))
 have c:decide (b<(p1.length:Int))=false:=Jo2 (by omega)
 refine Jq<|Jg3 [2,2,2,2] 2 R<|Jn3 R U29 R R<|Jb 1 R<|Jw2 R c<|Jc1<|Jt<|Jt ?_
 cases h
 have h:=m
 refine Jb1 ?_
 cases h
 exact Jw1 _ ⟨n,R,e.wk R,R⟩ KN
 obtain⟨V,h,m⟩:=BI h;unfold gC at h
 have c:decide (b<(p1.length:Int))=true:=Jn2 (by omega)
 refine Jq<|Jg3 [2,2,2,2] 2 R<|Jn3 R U29 R R<|Jb 1 R<|Jv2 R c<|Js<|Jp<|Jq<|Jv<|Jq<|Js1 (κ:=n) [0,2] none [(1,2),(2,2),(3,2),(0,0),(4,0),(5,1),(6,2)] [] (by kernel_rfl) (by kernel_rfl) λaq i=>Jn 2 R<|Ob h λX v h=>Jc3 R p v U29 Z67<|Jg R (Jc4 (haC (t.stp<|T4 f d e i).cells R) I28 Z28 R) ?_
 obtain⟨ad,Q,O⟩:=((p.stp (T5 j f d e i))).gSt v
 obtain⟨aa,am,ab,an,rfl,I,J⟩:=Clause.un Q
 refine Jg R (Jc4 (haC O R) I67 Z67 R)<|Ob h λY T h=>Jr3 R C150 (lK (κ:=Mk n) (p0:=p0) (p1:=X) (Ji3 I) (Ji3 J) T) ?_
 rintro _ ar ⟨ai,rfl,G⟩
 obtain⟨s,o,al⟩:=Ji G 5 R
 refine⟨(o.cl R),Jn 1 R<|Jt1<|Jd ?_⟩
 revert h
 cases ah:(!Y)
 refine JF λh=>Jy R<|Js<|Jz<|Jp<|Jf3 R ?_
 have S:bM .i64 (b+1)=b+1:=wr1 N (Jm2 c) M
 rw[S]
 have c:=Jm2 c
 cases h
 exact Jz1 λa ha=>⟨k,_,Ja3 _,⟨s,b+1,R,(T3 e i o).wk R,by omega,by omega,m⟩,(ha.mm R)⟩
 refine JT λh=>Jx R<|Je3 R<|Ju<|Ja1<|Jw<|Jw ?_
 cases h
 obtain rfl:=Option.some.inj m
 have h:=yL u
 refine Ja1<|Jq2<|Jw<|Ja2 (l:=[.tmp 4]) V75 (Jp2 R R) R ?_
 cases h
 exact⟨s,R,(q.stp<|T6 j f d e i o)⟩
 rintro _ ao ⟨C,rfl,F,rfl⟩
 have h:=yI u
 refine Jp<|Je3 R<|Ju<|Ja2 (l:=[.tmp 4]) V75 (Jp2 R R) R ?_
 cases h
 exact⟨C,R,(q.stp<|T4 j f d F)⟩
 refine JT λh=>Jx R<|Je3 R<|Ju<|Jw<|Ja2 (l:=[.tmp 4]) V75 (Jp2 R R) R ?_
 cases h
 exact⟨g,R,(q.stp<|T3 j f d)⟩
theorem m7 {p0:Sig}{aj am an ah}{p1:Clause}(bu:Rd (Rp.int .i64) κ w 0 aj am p1.A) (bv:Rd (Rp.int .i64) κ w 0 an ah p1.B){r:Det}(h:j6 p0 p1=some r):Ret Tryz.prog 122 [.agg #[vi p0.In,vi p0.Out],.agg #[vi p1.Kind,.slice aj p1.A.length am,.slice an p1.B.length ah]] w (λv w'=>∃(κ':Col) (aJ:Option Addr) (aL:Nat) (aK:Option Addr) (aM:Nat),v= .agg #[.slice aJ r.Next.length aL,.slice aK r.Pairs.length aM]/\Ent κ w κ' w'/\Oc (Ep.own E6 2) 37 κ' w' 2 aJ aL r.Next/\Oc Pair.ep127 127 κ' w' 3 aK aM r.Pairs):=by
 unfold j6 at h
 refine Jk3 κ F122 R N122 R λaD=>Je [1,1,1] R<|Js3 (κ:=κ) 2 R λbR w1 aV B bl=>Tv<|Js3 (κ:=aV) 3 R λbT cq aX u bs=>Tv<|Jt3 (κ:=aX) 4 R X71 R λbV cx aQ i ap=>Tv<|Jd<|Jq<|Je [1,1,1,2] R ?_
 have au:=bl.stp (u.tr i)
 refine Jb4 tv R (Jc4 (haE au.cells) I28 Z28 R) ?_
 have av:=bs.stp i
 refine Jb4 tv R (Jc4 (haE av.cells) I67 Z67 R)<|Ob h λbI bB h=>?_
 have aw:=bu.stp (T3 B u i)
 have ax:=bv.stp (T3 B u i)
 refine Jr3 R C150 (lK (κ:=Mk aQ) (p0:=p0) (p1:=p1) (Ji3 aw) (Ji3 ax) bB) ?_
 rintro _ cm ⟨b2,rfl,a8⟩
 obtain⟨N,g,b7⟩:=Ji a8 5 R
 refine Tv<|Jb 1 R ?_
 revert h
 cases bX:(!bI)
 refine JF λh=>Jy R<|Js<|Jp<|Je [2,1,1,1,2,1,1] R<|Jd3 R U67 R Z2 ?_
 have ay:=av.stp g
 refine Jb3 R I2 (ay.ld 0 R R)<|Ob h λf bC h=>Jr3 R C187 (sH (κ:=Mk N) bC) ?_
 rintro _ aN ⟨b3,ar,ak,ai,al,rfl,a9,bj,bk⟩
 obtain⟨O,q,aG⟩:=Ji a9 7 R
 refine Tv<|Jw3 (κ:=O) (E:=Pair.ep127) 11 [9,10] (parts:=[(0,.tmp 16)]) (cells:=[.slice ar f.Ask.length ak,.slice ai f.Give.length al]) (xs:=([f]:List Pair)) R Y69 dg R (Je4 ⟨[.slice ar f.Ask.length ak],[.slice ai f.Give.length al],Zl O aN [9],Zl O aN [10],R,Zl.sp (l1:=[9]) (l2:=[10]) R,Zl.sr (l1:=[9]) (l2:=[10]),⟨_,_,R,(bj.mx (cc _) aG R (R:7+2=9))⟩,⟨_,_,R,(bk.mx (cc _) aG R (R:7+3=10))⟩⟩) λy z co aW s bm=>Tv<|Jf R (Ji4 [.slice none 0 0,.slice y ([f]:List Pair).length z] R)<|Jt3 (κ:=aW) 12 R X71 R λao cp A j bn=>Tv<|Jh4 (κ:=A) 12 R Z71 R bn R λaO m bo=>Tv<|Jd<|Jq<|Je3 R<|Ob h λaH bz bw=>?_
 clear h
 refine Jo3 [4,5] (λE L w'=>∃κ',∃M:Int×(List<|List Int),∃D G,L=E/\Stp [12,13,16,17] A aO κ' w'/\Oc (Ep.own E6 2) 37 κ' w' 13 D G M.2/\Bc κ' w' 12 ao 71 [.slice D M.2.length G,.slice y ([f]:List Pair).length z]/\aH=cb M) ?_ ?_
 refine Jv<|Jp3 [2,3,4,5] (λk E L w'=>∃κ',∃c:Int×(List<|List Int),∃K C,L=(6,vi c.1)::E/\Stp [12,13,16,17] A aO κ' w'/\Oc (Ep.own E6 2) 37 κ' w' 13 K C c.2/\Bc κ' w' 12 ao 71 [.slice K c.2.length C,.slice y ([f]:List Pair).length z]/\cu (gF p0 p1) k c=some aH) ⟨_,_,⟨A,((0:Int),(([]:List (List Int)):(List<|List Int))),none,0,R,Jj3,Ow.nil,bo,bz⟩,(KM R)⟩ ?_
 rintro k _ cs ⟨aY,c,K,C,rfl,t,az,aA,h⟩
 rcases k with _ | k
 cases h
 obtain⟨ca,h,aE⟩:=BI h;unfold gF at h
 refine Jq<|Jg3 [2,2,1,1,2] 1 R<|Jd3 R U67 R Z2 ?_
 have aB:=ay.stp (T5 q s j m t)
 refine Jb3 R I2 (aB.ld 0 R R)<|Ob h λbJ bD h=>Jr3 R C188 (qx (κ:=Mk aY) bD) ?_
 rintro _ ct ⟨b4,rfl,ba⟩
 obtain⟨aa,d,b8⟩:=Ji ba 14 R
 refine Tv<|Jb 1 R ?_
 revert h
 cases b0:decide (c.1<bJ)
 refine JF λh=>Jy R<|Jc1<|Jt<|Jt ?_
 cases h
 have h:=aE
 refine Jb1 ?_
 cases h
 exact Jw1 _ ⟨aa,(c.1,c.2),K,C,R,(t.tr d).wk R,(az.stp d),(aA.stp d),R⟩<|KM R
 refine JT λh=>Jx R<|Js<|Jp<|Jq<|Jv<|Je [1,2] R<|Jx3 (κ:=aa) (E:=E6) 16 R Y37 bS R λa6 a3 aP P n br=>Tv<|Jb 1 R<|Jq<|Je3 R<|Ob h λaI bA bx=>?_
 clear h
 refine Jo3 [2,3,4,5,6] (λE L w'=>∃κ',∃p:(List Int)×Int,∃J H,L=(7,.slice J p.1.length H)::E/\Stp [16] P aP κ' w'/\Oc E6 2 κ' w' 16 J H p.1/\aI=cb p) ?_ ?_
 refine Jv<|Jp3 [2,3,4,5,6] (λk E L w'=>∃κ',∃e:(List Int)×Int,∃I F,L=(7,.slice I e.1.length F)::(8,vi e.2)::E/\Stp [16] P aP κ' w'/\Oc E6 2 κ' w' 16 I F e.1/\cu (gG p0 p1 c) k e=some aI) ⟨_,_,⟨P,((([]:List Int):(List Int)),(0:Int)),a6,a3,R,Jj3,br,bA⟩,(KM R)⟩ ?_
 rintro k _ cw ⟨a0,e,I,F,rfl,x,aC,h⟩
 rcases k with _ | k
 cases h
 obtain⟨ce,h,aF⟩:=BI h;unfold gG at h
 refine Jq<|Jg3 [2,1,1,2] 1 R<|Jb4 tv R (Jc4 (haE (au.stp<|T9 g q s j m t d n x).cells) I28 Z28 R)<|Ob h λbK bE h=>Jr3 R C120 (fh (κ:=Mk a0) (p0:=p0) bE) ?_
 rintro _ cy ⟨b5,rfl,bb⟩
 obtain⟨ab,o,b9⟩:=Ji bb 17 R
 refine Tv<|Jb 1 R ?_
 revert h
 cases bW:decide (e.2<bK)
 refine JF λh=>Jy R<|Jc1<|Jt<|Jt ?_
 cases h
 have h:=aF
 refine Jb1 ?_
 cases h
 exact Jw1 _ ⟨ab,(e.1,e.2),I,F,R,(x.tr o).wk R,(aC.stp o),R⟩<|KM R
 have ac:=(T10 g q s j m t d n x o)
 refine JT λh=>Jx R<|Js<|Jp<|Jq<|Jv<|Jh3 [2,1,2,2,1,1,1,2] 1 R<|Jb4 tv R (Jc4 (haE (aB.stp<|T4 d n x o).cells) I67 Z67 R)<|Jn 2 R<|Ob h λbL bF h=>Jr3 R C189 (sG (κ:=Mk ab) (p0:=p1) (Ji3<|aw.stp ac) (Ji3<|ax.stp ac) bF) ?_
 rintro _ cf ⟨b1,rfl,a7⟩
 obtain⟨aR,ad,b6⟩:=Ji a7 19 R
 refine Tv<|Jd4 (κ:=aR) 21 [bL] R Y37 bS R λbP bN cg aS ae bc=>Tv<|Ob h λbM bG h=>Jy3 (κ:=aS) (E:=E6) 16 [] R Y37 bS R (aC.stp<|T3 o ad ae) (Sl.srcP (bY _) bc.rdc) bU bG R λa4 a5 ch aT a1 bd=>Tv<|Jc 1 R<|Jz<|Jp<|Jf3 R ?_
 cases h
 exact Jz1 λa ha=>⟨k,_,Ja3 _,⟨aT,(bM,((IntKind.i64.wrap<|e.2+1):Int)),a4,a5,R,(T5 x o ad ae a1).wk R,bd,aF⟩,(ha.mm R)⟩
 rintro _ cv ⟨aZ,p,J,H,rfl,U,bt,rfl⟩
 have h:=yI bx
 refine Jp<|Ja [2,1,2,1,1,2,1] R<|Jd3 R U71 R Z31 ?_
 have aq:=aA.stp (T3 d n U)
 refine Jb3 R I31 (aq.ld 0 R R)<|Jn 1 R<|Jw3 (κ:=aZ) (E:=(Ep.own E6 2)) 17 [16] (parts:=[(0,.tmp 42)]) (cells:=[.slice J p.1.length H]) (xs:=([p.1]:List (List Int))) R Y31 bZ R (Je4 ⟨_,_,R,bt⟩) λbO bQ ci aU Q be=>Tv<|Ob h λX bH h=>Jy3 (κ:=aU) (E:=(Ep.own E6 2)) 13 [17] R Y31 bZ R (az.stp<|T4 d n U Q) be.src (dG R) bH R λV W cj Y af bf=>Tv<|Jd3 R U71 R Z31<|Ju3 (κ:=Y) 12 (off:=0) (vc:=[.slice V X.length W]) (cs':=[.slice V X.length W,.slice y ([f]:List Pair).length z]) R Z31 R (aq.stp<|Q.tr af) R λck ag bg=>Tv<|Jo<|Jz<|Jp<|Jf3 R ?_
 cases h
 exact Jz1 λa ha=>⟨k,_,Ja3 _,⟨Y,(((IntKind.i64.wrap<|c.1+1):Int),X),V,W,R,(T7 t d n U Q af ag).wk R,(bf.stp ag),bg,aE⟩,(ha.mm R)⟩
 rintro _ cr ⟨Z,M,D,G,rfl,T,bp,bq,rfl⟩
 have h:=yI bw
 refine Jp<|Je [1,1] R<|Jb4 tv R (Jc4 (haE bq.cells) I71 Z71 R)<|Jh4 (κ:=Z) 4 R Z71 R (ap.stp<|T6 g q s j m T) R λcl S bh=>Tv<|Jd<|Ju<|Ja2 (l:=[.cell 4 71]) V122 (cd R bh I71 Z71 R R) R ?_
 cases h
 exact⟨(λb=>ren [(13,2),(11,3)]<|Z b),D,G,y,z,R,((aD.stp<|T10 B u i g q s j m T S).map (ren [(13,2),(11,3)]) R R),((bp.stp S).map (ren [(13,2),(11,3)]) R R),((bm.stp<|T4 j m T S).map (ren [(13,2),(11,3)]) R R)⟩
 refine JT λh=>Jx R<|Je [2,1] R<|Jf R (Ji4 [.slice none 0 0,.slice none 0 0] R)<|Jh4 (κ:=N) 4 R Z71 R (ap.stp g) R λcn a2 bi=>Tv<|Jd<|Ju<|Jw<|Ja2 (l:=[.cell 4 71]) V122 (cd R bi I71 Z71 R R) R ?_
 cases h
 exact⟨N,none,0,none,0,R,(aD.stp<|T5 B u i g a2),Ow.nil,Ow.nil⟩
theorem oI {v D}{p0:(List Pair)}{p1:Int}(n:Rd Pair.rp κ w 0 v D p0){r:Bool}(h:kA p0 p1=some r):Ret Tryz.prog 133 [.slice v p0.length D,vi p1] w (Pvb κ w r):=by
 unfold kA at h
 refine Jk3 κ F133 R N133 R λo=>Je3 R<|Jq<|Jg3 [2,1,2,2,2,2,2,2] 1 R<|Ob h λah ad h=>Jr3 R C59 (de (κ:=Mk κ) ad) ?_
 rintro _ w1 ⟨ay,rfl,M⟩
 obtain⟨H,g,aD⟩:=Ji M 2 R
 refine Tv<|Jn 2 R<|Ob h λA h S=>Jf4 [0,1] 13 A H w1 [(4,2),(5,2),(6,2),(7,2)] [] tv ?_ ?_
 revert h
 cases ax:(!ah)
 refine JF λh=>Jn 1 R<|Jn3 R U69 R R<|Jn 2 R ?_
 cases h
 exact Jg4 tv R
 refine JT λh=>Jn 4 R ?_
 cases h
 exact Jg4 tv R
 rintro _ F _ ⟨rfl,d,e⟩
 have h:=S
 refine Jd ?_
 revert h
 cases au:A
 refine JF λh=>Jy R<|Js<|Jp<|Jq<|Je3 R ?_
 have T:(p0.length:Int)<=9223372036854775807:=n.len_le
 refine Ob h λC X x=>?_
 clear h
 refine Jx1 (λL w'=>∃κ',L=[]/\Stp [] d F κ' w'/\C=cb ()) ?_ ?_
 refine Jv<|Jp3 [0,1] (λk E L w'=>∃κ' b,L=(5,vi b)::E/\Stp [] d F κ' w'/\0<=b/\hV ((p0.length:Int)-b)=k/\cntM (jn p0 p1) k b ()=some C) ⟨_,_,⟨d,0,R,Jj3,(by decide),(by simp),X⟩,(KM R)⟩ ?_
 rintro k _ aJ ⟨q,b,rfl,f,U,ar,h⟩
 rcases k with _ | k
 have i:=h;obtain⟨ae,h⟩:=cw (cb (eg ()):Bool⊕((Unit)⊕(Unit)))
 have c:decide (b<(p0.length:Int))=false:=Jo2 (by omega)
 refine Jq<|Jg3 [2,2,2,2] 2 R<|Jn3 R U69 R R<|Jb 1 R<|Jw2 R c<|Jc1<|Jt<|Jt ?_
 cases h
 have h:=i
 refine Jb1 ?_
 cases h
 exact Jw1 _ ⟨q,R,f.wk R,R⟩ KN
 obtain⟨ae,h,i⟩:=BI h;unfold jn at h
 have c:decide (b<(p0.length:Int))=true:=Jn2 (by omega)
 refine Jq<|Jg3 [2,2,2,2] 2 R<|Jn3 R U69 R R<|Jb 1 R<|Jv2 R c<|Js<|Jp<|Jq<|Jv<|Jg3 [2,2,2,2,1,2,1,2,2,2,2,2,2,1,2,1,2,2] 2 R<|Ob h λaM y h=>Jc3 R n y U69 Z127<|Jd3 R U127 R Z37 ?_
 have m:=n.stp (T3 g e f)
 obtain⟨an,Y,V⟩:=(m).gSt y
 obtain⟨aj,aE,ak,aF,rfl,O,ap⟩:=Pair.un Y
 refine Jb3 R I37 (λw' p=>V w' p 0 _ R)<|Jn 1 R<|Ob h λag ab h=>Jr3 R C80 (oc (κ:=Mk q) (Ji3 O) ab) ?_
 rintro _ af ⟨az,rfl,K⟩
 obtain⟨s,j,aB⟩:=Ji K 4 R
 refine Tv<|Jn 2 R<|Ob h λB h Q=>Jf4 [0,1,5] 37 B s af [(9,2),(10,2),(11,2),(12,2),(13,1),(14,2),(15,1),(16,2),(17,2)] [] tv ?_ ?_
 revert h
 cases av:(!ag)
 refine JF λh=>Jn 2 R<|Ob h λaN z h=>Jc3 R m z U69 Z127<|Jd3 R U127 R Z37 ?_
 obtain⟨ao,Z,W⟩:=((m.stp j)).gSt z
 obtain⟨al,aG,am,aH,rfl,aq,P⟩:=Pair.un Z
 refine Jb3 R I37 (λw' p=>W w' p 1 _ R)<|Jn 1 R<|Ob h λaO ac h=>Jr3 R C80 (oc (κ:=Mk s) (Ji3 P) ac) ?_
 rintro _ aK ⟨aA,rfl,N⟩
 obtain⟨ai,J,aC⟩:=Ji N 6 R
 refine Tv<|Jn 2 R ?_
 cases h
 exact Jv1 _ tv ⟨R,_,J.wk R⟩<|KM R
 refine JT λh=>Jn 4 R<|Jz3 R<|Jn 1 R<|Jz3 R<|Jn 2 R ?_
 cases h
 exact Jg4 tv R
 rintro _ aL _ ⟨rfl,t,u⟩
 have h:=Q
 refine Jd ?_
 revert h
 cases aw:B
 refine JF λh=>Jy R<|Js<|Jz<|Jp<|Jf3 R ?_
 have aa:bM .i64 (b+1)=b+1:=wr1 U (Jm2 c) T
 rw[aa]
 have c:=Jm2 c
 cases h
 exact Jz1 λa ha=>⟨k,_,Ja3 _,⟨t,b+1,R,(T3 f j u).wk R,by omega,by omega,i⟩,(ha.mm R)⟩
 refine JT λh=>Jx R<|Je3 R<|Ju<|Ja1<|Jw<|Jw ?_
 cases h
 obtain rfl:=Option.some.inj i
 have h:=yL x
 refine Ja1<|Jq2<|Jw<|Ja2 (l:=[.tmp 4]) V133 (Jp2 R R) R ?_
 cases h
 exact⟨t,R,(o.stp<|T5 g e f j u)⟩
 rintro _ aI ⟨G,rfl,I,rfl⟩
 have h:=yI x
 refine Jp<|Je3 R<|Ju<|Ja2 (l:=[.tmp 4]) V133 (Jp2 R R) R ?_
 cases h
 exact⟨G,R,(o.stp<|T3 g e I)⟩
 refine JT λh=>Jx R<|Je3 R<|Ju<|Jw<|Ja2 (l:=[.tmp 4]) V133 (Jp2 R R) R ?_
 cases h
 exact⟨d,R,(o.stp<|g.tr e)⟩
theorem nS {v y t z u x}{p0:Parity}(P:Rd (Rp.int .i64) κ w 0 v y p0.Arena.Owner) (Q:Rd (Rp.sl (Rp.int .i64)) κ w 0 t z p0.Arena.Next) (n:Rd (Rp.int .i64) κ w 0 u x p0.Prio){r:Bool}(h:jL p0=some r):Ret Tryz.prog 138 [.agg #[.slice v p0.Arena.Owner.length y,.slice t p0.Arena.Next.length z,.slice u p0.Prio.length x]] w (Pvb κ w r):=by
 unfold jL at h
 refine Jk3 κ F138 R N138 R λo=>Je [1,2] R<|Js3 (κ:=κ) 2 R λad w1 J e j=>Tv<|Jb 1 R<|Jq<|Je [2,1,1,2,2,2,1,2,2,2,1,2,2,2] R<|Jd3 R U79 R Z75<|Jb4 tv R (Jc4 (haE<|j.lds 0 2 R) I75 Z75 R)<|Ob h λac Y h=>Jr3 R C132 (oH (κ:=Mk J) (p0:=p0.Arena) (Ji3<|P.stp e) (Ji3<|Q.stp e) Y) ?_
 rintro _ aa ⟨aj,rfl,O⟩
 obtain⟨I,c,ak⟩:=Ji O 3 R
 refine Tv<|Jn 2 R<|Ob h λF h S=>Jf4 [1] 17 F I aa [(5,2),(6,1),(7,2),(8,2),(9,2),(10,1),(11,2),(12,2),(13,2)] [] tv ?_ ?_
 revert h
 cases af:(!ac)
 refine JF λh=>Jd3 R U79 R Z37 ?_
 have A:=j.stp c
 refine Jb3 R I37 (A.ld 2 R R)<|Jn3 R U37 R R<|Jd3 R U79 R Z75<|Jd3 R U75 R Z37<|Jb3 R I37 (A.ld 0 R R)<|Jn3 R U37 R R<|Jn 2 R ?_
 cases h
 exact Jg4 tv R
 refine JT λh=>Jn 1 R<|Jz3 R<|Jn 3 R<|Jz3 R<|Jn 3 R ?_
 cases h
 exact Jg4 tv R
 rintro _ H _ ⟨rfl,i,d⟩
 have h:=S
 refine Jd ?_
 revert h
 cases ag:F
 refine JF λh=>Jy R<|Js<|Jp<|Jq<|Je3 R ?_
 have T:(p0.Prio.length:Int)<=9223372036854775807:=n.len_le
 refine Ob h λG V C=>?_
 clear h
 refine Jx1 (λL w'=>∃κ',L=[]/\Stp [] i H κ' w'/\G=cb ()) ?_ ?_
 refine Jv<|Jp3 [1] (λk E L w'=>∃κ' b,L=(3,vi b)::E/\Stp [] i H κ' w'/\0<=b/\hV ((p0.Prio.length:Int)-b)=k/\cntM (ir p0) k b ()=some G) ⟨_,_,⟨i,0,R,Jj3,(by decide),(by simp),V⟩,(KM R)⟩ ?_
 rintro k _ an ⟨p,b,rfl,f,U,ae,h⟩
 rcases k with _ | k
 have m:=h;obtain⟨Z,h⟩:=cw (cb (eg ()):Bool⊕((Unit)⊕(Unit)))
 have g:decide (b<(p0.Prio.length:Int))=false:=Jo2 (by omega)
 refine Jq<|Jg3 [2,2,1,2,2] 1 R<|Jd3 R U79 R Z37<|Jb3 R I37 ((j.stp<|T3 c d f).ld 2 R R)<|Jn3 R U37 R R<|Jb 1 R<|Jw2 R g<|Jc1<|Jt<|Jt ?_
 cases h
 have h:=m
 refine Jb1 ?_
 cases h
 exact Jw1 _ ⟨p,R,f.wk R,R⟩ KN
 obtain⟨Z,h,m⟩:=BI h;unfold ir at h
 have g:decide (b<(p0.Prio.length:Int))=true:=Jn2 (by omega)
 refine Jq<|Jg3 [2,2,1,2,2] 1 R<|Jd3 R U79 R Z37 ?_
 have B:=j.stp (T3 c d f)
 refine Jb3 R I37 (B.ld 2 R R)<|Jn3 R U37 R R<|Jb 1 R<|Jv2 R g<|Js<|Jp<|Jq<|Jv<|Je [2,1,2,2,1,1,2] R<|Jd3 R U79 R Z37<|Jb3 R I37 (B.ld 2 R R)<|Jn 1 R<|Ob h λap D h=>Jc3 R n D U37 Z2<|Jb3 R I2 ((n.stp<|T4 e c d f).gInt D)<|Ob h λab X h=>Jr3 R C59 (de (κ:=Mk p) X) ?_
 rintro _ ao ⟨ai,rfl,N⟩
 obtain⟨q,s,al⟩:=Ji N 5 R
 refine Tv<|Jb 1 R ?_
 revert h
 cases ah:(!ab)
 refine JF λh=>Jy R<|Js<|Jz<|Jp<|Jf3 R ?_
 have W:bM .i64 (b+1)=b+1:=wr1 U (Jm2 g) T
 rw[W]
 have g:=Jm2 g
 cases h
 exact Jz1 λa ha=>⟨k,_,Ja3 _,⟨q,b+1,R,(f.tr s).wk R,by omega,by omega,m⟩,(ha.mm R)⟩
 refine JT λh=>Jx R<|Je3 R<|Ju<|Ja1<|Jw<|Jw ?_
 cases h
 obtain rfl:=Option.some.inj m
 have h:=yL C
 refine Ja1<|Jq2<|Jw<|Ja2 (l:=[.tmp 2]) V138 (Jp2 R R) R ?_
 cases h
 exact⟨q,R,(o.stp<|T5 e c d f s)⟩
 rintro _ am ⟨K,rfl,M,rfl⟩
 have h:=yI C
 refine Jp<|Je3 R<|Ju<|Ja2 (l:=[.tmp 2]) V138 (Jp2 R R) R ?_
 cases h
 exact⟨K,R,(o.stp<|T4 e c d M)⟩
 refine JT λh=>Jx R<|Je3 R<|Ju<|Jw<|Ja2 (l:=[.tmp 2]) V138 (Jp2 R R) R ?_
 cases h
 exact⟨i,R,(o.stp<|T3 e c d)⟩
theorem od {H K G M J I}{p0:Parity}(aA:Rd (Rp.int .i64) κ w 0 H K p0.Arena.Owner) (aB:Rd (Rp.sl (Rp.int .i64)) κ w 0 G M p0.Arena.Next) (aC:Rd (Rp.int .i64) κ w 0 J I p0.Prio){r:(List Int)}(h:jX p0=some r):Ret Tryz.prog 200 [.agg #[.slice H p0.Arena.Owner.length K,.slice G p0.Arena.Next.length M,.slice J p0.Prio.length I]] w (Pvs E6 2 κ w r):=by
 unfold jX at h
 refine Jk3 κ F200 R N200 R λaD=>Je [1,2] R<|Js3 (κ:=κ) 2 R λa9 w1 z m au=>Tv<|Jb 1 R<|Jq<|Js1 (κ:=z) [2] none [(2,2),(0,0),(3,0),(4,2),(1,1),(5,1),(6,1),(7,2)] [] (by kernel_rfl) (by kernel_rfl) λbk g=>Jd3 R U79 R Z37 ?_
 have O:=au.stp g
 refine Jg R (Jc4 (haC O.cells R) I79 Z79 R)<|Jg R (Jc2 I37 R R<|hvC (O.ld 2 R R) R)<|Jn3 R U37 R R<|Ob h λaT aN h=>Jr3 R C201 (rH (κ:=λb=>mp [] 1<|z b) (p0:=p0) (Jl2 (aA.stp<|m.tr g) (mp [] 1) R R) (Jl2 (aB.stp<|m.tr g) (mp [] 1) R R) (Jl2 (aC.stp<|m.tr g) (mp [] 1) R R) aN) ?_
 rintro _ bg ⟨bb,a5,aV,aW,a8,a6,aZ,a1,aY,a4,a3,rfl,ah,al,am,an,ao,ap⟩
 obtain⟨U,j,Q,y⟩:=Jj ah 3 R
 refine⟨(j.cl R),Ob h λbp aJ h=>Jr3 R C252 (uL (κ:=Mk U) aJ) ?_⟩
 rintro _ bh ⟨bc,a2,a0,rfl,ai,aq⟩
 obtain⟨V,d,aO⟩:=Ji ai 10 R
 refine⟨((j.tr d).cl R),Ob h λi aK h=>Jr3 R C250 (qz _ (κ:=Mk V) (p0:=aT) (Ji3 ((al.mx y).stp d)) (Ji3 ((am.mx y).stp d)) (Ji3 ((an.mx y).stp d)) (Ji3 ((ao.mx (df (cc _) _) Q R (R:3+5=8)).stp d).rdc) (Ji3 ((ap.mx (cc _) Q R (R:3+6=9)).stp d).rdc) (Ji3 (aq.mx eS aO R (R:10+2=12)).rdc) aK) ?_⟩
 rintro _ bi ⟨bd,aU,aX,rfl,aj,av⟩
 obtain⟨W,B,aP⟩:=Ji aj 13 R
 refine⟨((T3 j d B).cl R),?_⟩
 have v:=av.mx eS aP R (R:13+2=15)
 refine Jn 1 R<|Jt1<|Jd<|Je [1,2] R<|Jx3 (κ:=W) (E:=E6) 16 R Y37 bS R λag af T t C aw=>Tv<|Jb 1 R<|Jq<|Je3 R ?_
 have aF:(i.length:Int)<=9223372036854775807:=v.len_le
 refine Ob h λS aH aE=>?_
 clear h
 refine Jx1 (λL w'=>∃κ',∃s:(List Int),∃o p,L=[(4,.slice o s.length p)]/\Stp [16] t T κ' w'/\Oc E6 2 κ' w' 16 o p s/\S=cb s) ?_ ?_
 refine Jv<|Jp3 [3] (λk E L w'=>∃κ' c,∃f:(List Int),∃q n,L=(4,.slice q f.length n)::(5,vi c)::E/\Stp [16] t T κ' w'/\Oc E6 2 κ' w' 16 q n f/\0<=c/\hV ((i.length:Int)-c)=k/\cntM (lj i) k c f=some S) ⟨_,_,⟨t,0,(([]:List Int):(List Int)),ag,af,R,Jj3,aw,(by decide),(by simp),aH⟩,(KM R)⟩ ?_
 rintro k _ bl ⟨A,c,f,q,n,rfl,u,N,aG,ba,h⟩
 rcases k with _ | k
 have x:=h;obtain⟨aQ,h⟩:=cw (cb (eg f):(List Int)⊕(((List Int))⊕((List Int))))
 have e:decide (c<(i.length:Int))=false:=Jo2 (by omega)
 refine Jq<|Jg3 [2,2,2,2] 2 R<|Jn3 R U178 R R<|Jb 1 R<|Jw2 R e<|Jc1<|Jt<|Jt ?_
 cases h
 have h:=x
 refine Jb1 ?_
 cases h
 exact Jw1 _ ⟨A,f,q,n,R,u.wk R,N,R⟩<|KM R
 obtain⟨aQ,h,x⟩:=BI h;unfold lj at h
 have e:decide (c<(i.length:Int))=true:=Jn2 (by omega)
 refine Jq<|Jg3 [2,2,2,2] 2 R<|Jn3 R U178 R R<|Jb 1 R<|Jv2 R e<|Js<|Jp<|Jq<|Jv<|Jh3 [2,2,2,2,1,1,2,1,1,2] 3 R<|Ob h λbq P h=>Jc3 R v.rdc P U178 Z4<|Jb3 R I4 ((v.stp<|C.tr u).rdc.gBool P)<|Ob h λaR aL h=>Jr3 R C192 (ng (κ:=Mk A) aL) ?_
 rintro _ bm ⟨be,rfl,ak⟩
 obtain⟨Y,D,bf⟩:=Ji ak 17 R
 refine Tv<|Jn 1 R<|Jd4 (κ:=Y) 19 [(IntKind.i64.wrap (1-aR))] R Y37 bS R λa7 ar bn Z F ay=>Tv<|Ob h λaS aM h=>Jy3 (κ:=Z) (E:=E6) 16 [] R Y37 bS R (N.stp<|D.tr F) (Sl.srcP (bY _) ay.rdc) bU aM R λad ae bo aa ac az=>Tv<|Jc 1 R<|Jz<|Jp<|Jf3 R ?_
 have aI:bM .i64 (c+1)=c+1:=wr1 aG (Jm2 e) aF
 rw[aI]
 have e:=Jm2 e
 cases h
 exact Jz1 λa ha=>⟨k,_,Ja3 _,⟨aa,c+1,aS,ad,ae,R,(T4 u D F ac).wk R,az,by omega,by omega,x⟩,(ha.mm R)⟩
 rintro _ bj ⟨X,s,o,p,rfl,ab,ax,rfl⟩
 have h:=yI aE
 refine Jp<|Je3 R<|Ju<|Ja2 (l:=[.tmp 2]) V200 (Jp2 R R) R ?_
 cases h
 exact⟨(λb=>ren [(16,2)]<|X b),o,p,R,((aD.stp<|T7 m g j d B C ab).map (ren [(16,2)]) R R),(ax.map (ren [(16,2)]) R R)⟩
theorem sK {x v t y s q u A p z}{p0:l7Game}{a1 J}{p1:(List Bool)}{p2:Int}(T:Rd (Rp.int .i64) κ w 0 x v p0.owner) (U:Rd (Rp.int .i64) κ w 0 t y p0.prio) (V:Rd (Rp.sl (Rp.int .i64)) κ w 0 s q p0.next) (W:Rd (Rp.sl (Rp.int .i64)) κ w 0 u A p0.prev) (X:Rd (Rp.int .i64) κ w 0 p z p0.pick) (Y:Rd Rp.bool κ w 0 a1 J p1){r:Bool}(h:mc p0 p1 p2=some r):Ret Tryz.prog 253 [.agg #[.slice x p0.owner.length v,.slice t p0.prio.length y,.slice s p0.next.length q,.slice u p0.prev.length A,.slice p p0.pick.length z],.slice a1 p1.length J,vi p2] w (Pvb κ w r):=by
 unfold mc at h
 refine Jk3 κ F253 R N253 R λC=>Je [1,2] R<|Js3 (κ:=κ) 2 R λam w1 M c S=>Tv<|Jb 1 R<|Je [1,2,1,2] R<|Jb4 tv R (Jc4 (haE S.cells) I210 Z210 R)<|Jn 1 R<|Ob h λai ae h=>?_
 have f:=Y.stp c
 refine Jr3 R C250 (qz _ (κ:=Mk M) (p0:=p0) (Ji3<|T.stp c) (Ji3<|U.stp c) (Ji3<|V.stp c) (Ji3<|W.stp c) (Ji3<|X.stp c) (Ji3 f) ae) ?_
 rintro _ K ⟨aq,ak,al,rfl,P,Q⟩
 obtain⟨i,j,af⟩:=Ji P 3 R
 refine Tv<|?_
 have B:=Q.mx eS af R (R:3+2=5)
 refine Jb 1 R<|Jq<|Je3 R ?_
 have aa:(p1.length:Int)<=9223372036854775807:=f.len_le
 refine Ob h λI ac D=>?_
 clear h
 refine Jx1 (λL w'=>∃κ',L=[]/\Stp [] i K κ' w'/\I=cb ()) ?_ ?_
 refine Jv<|Jp3 [1,2,7] (λk E L w'=>∃κ' b,L=(8,vi b)::E/\Stp [] i K κ' w'/\0<=b/\hV ((p1.length:Int)-b)=k/\cntM (jz p1 p2 ai) k b ()=some I) ⟨_,_,⟨i,0,R,Jj3,(by decide),(by simp),ac⟩,(KM R)⟩ ?_
 rintro k _ ah ⟨m,b,rfl,e,ab,an,h⟩
 rcases k with _ | k
 have g:=h;obtain⟨ag,h⟩:=cw (cb (eg ()):Bool⊕((Unit)⊕(Unit)))
 have d:decide (b<(p1.length:Int))=false:=Jo2 (by omega)
 refine Jq<|Jg3 [2,2,2,2] 2 R<|Jn3 R U178 R R<|Jb 1 R<|Jw2 R d<|Jc1<|Jt<|Jt ?_
 cases h
 have h:=g
 refine Jb1 ?_
 cases h
 exact Jw1 _ ⟨m,R,e.wk R,R⟩ KN
 obtain⟨ag,h,g⟩:=BI h;unfold jz at h
 have d:decide (b<(p1.length:Int))=true:=Jn2 (by omega)
 refine Jq<|Jg3 [2,2,2,2] 2 R<|Jn3 R U178 R R<|Jb 1 R<|Jv2 R d<|Js<|Jp<|Jq<|Jv<|Jg3 [2,2,2,1,2,2,2,2,1,2,2,2,2] 2 R<|Ob h λaj F h=>Jc3 R f F U178 Z4<|Jb3 R I4 ((f.stp<|j.tr e).gBool F)<|Jn 1 R<|Ob h λH h Z=>Jf4 [1,2,7,8] 30 H m ah [(5,2),(6,2),(7,2),(8,1),(9,2),(10,2),(11,2),(12,2)] [] tv ?_ ?_
 revert h
 cases ao:aj
 refine JF λh=>Jn 3 R<|Jz3 R<|Jn 4 R ?_
 cases h
 exact Jg4 tv R
 refine JT λh=>Jn 2 R<|Ob h λav G h=>Jc3 R B.rdc G U178 Z4<|Jb3 R I4 ((B.stp e).rdc.gBool G)<|Jn 2 R<|Jf R (pG R R U4 R)<|Jn 1 R ?_
 cases h
 exact Jg4 tv R
 rintro _ au _ ⟨rfl,n,o⟩
 have h:=Z
 refine Jd ?_
 revert h
 cases ap:H
 refine JF λh=>Jy R<|Js<|Jz<|Jp<|Jf3 R ?_
 have ad:bM .i64 (b+1)=b+1:=wr1 ab (Jm2 d) aa
 rw[ad]
 have d:=Jm2 d
 cases h
 exact Jz1 λa ha=>⟨k,_,Ja3 _,⟨n,b+1,R,(e.tr o).wk R,by omega,by omega,g⟩,(ha.mm R)⟩
 refine JT λh=>Jx R<|Je3 R<|Ju<|Ja1<|Jw<|Jw ?_
 cases h
 obtain rfl:=Option.some.inj g
 have h:=yL D
 refine Ja1<|Jq2<|Jw<|Ja2 (l:=[.tmp 6]) V253 (Jp2 R R) R ?_
 cases h
 exact⟨n,R,(C.stp<|T4 c j e o)⟩
 rintro _ ar ⟨N,rfl,O,rfl⟩
 have h:=yI D
 refine Jp<|Je3 R<|Ju<|Ja2 (l:=[.tmp 6]) V253 (Jp2 R R) R ?_
 cases h
 exact⟨N,R,(C.stp<|T3 c j O)⟩
theorem mS {p0:Sig}{G J H I}{p1:Machine}(z:Rd (Rp.sl (Rp.int .i64)) κ w 0 G J p1.Next) (q:Rd (Rp.sl (Rp.int .i64)) κ w 0 H I p1.Out){r:Bool}(h:iQ p0 p1=some r):Ret Tryz.prog 83 [.agg #[vi p0.In,vi p0.Out],.agg #[.slice G p1.Next.length J,.slice H p1.Out.length I]] w (Pvb κ w r):=by
 unfold iQ at h
 refine Jk3 κ F83 R N83 R λA=>Je [1,1,2] R<|Js3 (κ:=κ) 2 R λaQ w1 aa n aj=>Tv<|Js3 (κ:=aa) 3 R λaR aG ad m y=>Tv<|Jb 1 R<|Je [2,1,2,2] R<|Jd3 R U33 R Z31<|Jb3 R I31 (y.ld 0 R R)<|Jn3 R U31 R R<|Jb 1 R<|Jq<|Jg3 [2,2,2,2,2,2,2,2,1,2,2,1,2,2,2] 3 R<|Ob h λS h ap=>Jf4 [2,3,5] 16 S ad aG [(3,2),(4,2),(5,2)] [(6,2),(7,2),(8,1),(9,2),(10,2),(11,1),(12,2),(13,2),(14,2)] tv ?_ ?_
 revert h
 cases aU:decide ((p1.Next.length:Int)<1)
 refine JF λh=>Jn 3 R ?_
 cases h
 exact Jg4 tv R
 refine JT λh=>Jn 3 R ?_
 cases h
 exact Jg4 tv R
 rintro _ aE _ ⟨rfl,Z,e⟩
 have h:=ap
 refine Jn 1 R<|Ob h λT h al=>Jf4 [2,3,5] 25 T Z aE [(7,2),(8,1),(9,2),(10,2),(11,1),(12,2),(13,2),(14,2)] [] tv ?_ ?_
 revert h
 cases aV:S
 refine JF λh=>Jd3 R U33 R Z31 ?_
 have K:=y.stp e
 refine Jb3 R I31 (K.ld 1 R R)<|Jn3 R U31 R R<|Jd3 R U33 R Z31<|Jb3 R I31 (K.ld 0 R R)<|Jn3 R U31 R R<|Jn 2 R ?_
 cases h
 exact Jg4 tv R
 refine JT λh=>Jn 1 R<|Jz3 R<|Jn 2 R<|Jz3 R<|Jn 3 R ?_
 cases h
 exact Jg4 tv R
 rintro _ Y _ ⟨rfl,p,g⟩
 have h:=al
 refine Jd ?_
 revert h
 cases aW:T
 refine JF λh=>Jy R<|Js<|Jp<|Jq<|Je [2,1,2,2] R<|Jd3 R U33 R Z31 ?_
 have x:=y.stp (e.tr g)
 refine Jb3 R I31 (x.ld 0 R R)<|Jn3 R U31 R R<|Jb 1 R ?_
 have aq:(p1.Next.length:Int)<=9223372036854775807:=z.len_le
 refine Ob h λX ax N=>?_
 clear h
 refine Jx1 (λL w'=>∃κ',L=[]/\Stp [] p Y κ' w'/\X=cb ()) ?_ ?_
 refine Jv<|Jp3 [2,3,5,27,28] (λk E L w'=>∃κ' d,L=(29,vi d)::E/\Stp [] p Y κ' w'/\0<=d/\hV ((p1.Next.length:Int)-d)=k/\cntM (gl p0 p1) k d ()=some X) ⟨_,_,⟨p,0,R,Jj3,(by decide),(by simp),ax⟩,(KM R)⟩ ?_
 rintro k _ bb ⟨t,d,rfl,f,ar,aT,h⟩
 rcases k with _ | k
 have s:=h;obtain⟨aD,h⟩:=cw (cb (eg ()):Bool⊕((Unit)⊕(Unit)))
 have o:decide (d<(p1.Next.length:Int))=false:=Jo2 (by omega)
 refine Je3 R<|Jq<|Jw2 R o<|Jc1<|Jt<|Jt ?_
 cases h
 have h:=s
 refine Jb1 ?_
 cases h
 exact Jw1 _ ⟨t,R,f.wk R,R⟩ KN
 obtain⟨aD,h,s⟩:=BI h;unfold gl at h
 have o:decide (d<(p1.Next.length:Int))=true:=Jn2 (by omega)
 refine Je3 R<|Jq<|Jv2 R o<|Js<|Jp<|Jq<|Jv<|Jg3 [2,2,1,2,2] 1 R<|Ob h λaJ O h=>Jc3 R z O U31 Z37 ?_
 obtain⟨aN,a7,ai,au⟩:=(z.stp (T5 n m e g f)).gSl O
 refine Jb3 R I37 au<|Jb 2 R<|Jq<|Js1 (κ:=t) [0,2,3] none [(0,2),(1,2),(2,0),(3,1),(4,2),(5,2),(6,2),(8,2),(12,2),(13,2),(7,0),(9,2),(10,0),(11,2),(14,2),(15,2),(16,2),(17,2),(18,2),(19,1),(20,2),(21,2),(22,2),(23,2),(25,2),(28,2),(24,0),(26,2),(27,0),(29,0),(30,2),(31,1),(32,2),(33,2)] [] (by kernel_rfl) (by kernel_rfl) λbc i=>Jn 1 R<|Jn3 R U37 R R ?_
 have M:=aj.stp (T5 m e g f i)
 refine Jg R (Jc4 (haC M.cells R) I28 Z28 R)<|Ob h λaK az h=>Jr3 R C46 (jS (κ:=Mk t) (p0:=p0) az) ?_
 rintro _ aF ⟨a1,rfl,af⟩
 obtain⟨ac,b,a4⟩:=Ji af 4 R
 refine⟨(b.cl R),Jn 2 R<|Ob h λU h am=>Jf4 [2,3,5,6,7,27,28,29] 49 U ac aF [(6,2),(8,2),(12,2),(13,2),(7,0),(9,2),(10,0),(11,2),(14,2),(15,2)] [(16,2),(17,2),(18,2),(19,1),(20,2),(21,2),(22,2),(23,2),(25,2),(28,2),(24,0),(26,2),(27,0),(29,0),(30,2),(31,1),(32,2),(33,2)] (b.cl R) ?_ ?_⟩
 revert h
 cases aX:((aJ.length:Int) !=aK)
 refine JF λh=>Jd3 R U33 R Z31<|Jn 2 R<|Jn3 R U37 R R<|Jg R (Jc2 I31 R R<|hvC ((x.stp<|f.tr i).ld 1 R R) R)<|Ob h λbg P h=>Jc3 R q P U31 Z37 ?_
 obtain⟨aO,a8,aS,av⟩:=(q.stp (T6 n m e g f i)).gSl P
 refine Jg R (Jc2 I37 R R<|hvC av R)<|Jn3 R U37 R R<|Jn 2 R ?_
 cases h
 exact Jv1 _ (b.cl R) ⟨R,_,Jj3⟩<|KM R
 refine JT λh=>Jn 4 R<|Ja4 R<|Jn 1 R<|Ja4 R<|Jn 3 R ?_
 cases h
 exact Jv1 _ (b.cl R) ⟨R,_,Jj3⟩<|KM R
 rintro _ aH _ ⟨rfl,B,c⟩
 have h:=am
 refine Jn 1 R<|Ob h λV h an=>Jf4 [2,3,5,6,27,28,29] 55 V B aH [(17,2),(18,2),(19,1),(20,2),(21,2)] [(22,2),(23,2),(25,2),(28,2),(24,0),(26,2),(27,0),(29,0),(30,2),(31,1),(32,2),(33,2)] ((b.tr c).cl R) ?_ ?_
 revert h
 cases aY:U
 refine JF λh=>Jn 2 R<|Ob h λbh aA h=>Jr3 R C159 (iF (κ:=Mk B) (Ji3<|ai.stp<|T3 i b c) aA) ?_
 rintro _ bd ⟨a2,rfl,ag⟩
 obtain⟨aL,u,a5⟩:=Ji ag 6 R
 refine⟨((T3 b c u).cl R),Jn 2 R ?_⟩
 cases h
 exact Jv1 _ ((T3 b c u).cl R) ⟨R,_,u.wk R⟩<|KM R
 refine JT λh=>Jn 2 R<|Jz3 R<|Jn 2 R ?_
 cases h
 exact Jv1 _ ((b.tr c).cl R) ⟨R,_,Jj3⟩<|KM R
 rintro _ aI _ ⟨rfl,C,j⟩
 have h:=an
 refine Jn 1 R<|Ob h λW h ao=>Jf4 [2,3,5,27,28,29] 67 W C aI [(23,2),(25,2),(28,2),(24,0),(26,2),(27,0),(29,0),(30,2),(31,1),(32,2),(33,2)] [] ((T3 b c j).cl R) ?_ ?_
 revert h
 cases aZ:V
 refine JF λh=>Jd3 R U33 R Z31<|Jn 1 R<|Jd3 R U28 R Z2<|Jg R (Jc2 I31 R R<|hvC ((x.stp<|f.tr i).ld 1 R R) R)<|Ob h λbi Q h=>Jc3 R q Q U31 Z37 ?_
 obtain⟨aP,a9,ak,aw⟩:=(q.stp (T6 n m e g f i)).gSl Q
 refine Jg R (Jc2 I37 R R<|hvC aw R)<|Jg R (Jc2 I2 R R<|hvC (M.ld 1 R R) R)<|Ob h λ_z64 aC h=>Jf R (uD R R R<|wT aC)<|Ob h λbj aB h=>Jr3 R C159 (iF (κ:=Mk C) (Ji3<|ak.stp<|T3 b c j) aB) ?_
 rintro _ be ⟨a3,rfl,ah⟩
 obtain⟨aM,v,a6⟩:=Ji ah 6 R
 refine⟨((T4 b c j v).cl R),Jn 2 R ?_⟩
 cases h
 exact Jv1 _ ((T4 b c j v).cl R) ⟨R,_,v.wk R⟩<|KM R
 refine JT λh=>Jn 3 R<|Ja4 R<|Jn 1 R<|Ja4 R<|Ja4 R<|Jn 1 R<|Jz3 R<|Jn 2 R ?_
 cases h
 exact Jv1 _ ((T3 b c j).cl R) ⟨R,_,Jj3⟩<|KM R
 rintro _ bf _ ⟨rfl,D,F⟩
 have h:=ao
 refine Jt1<|Jd ?_
 revert h
 cases a0:W
 refine JF λh=>Jy R<|Js<|Jz<|Jp<|Jf3 R ?_
 have ay:bM .i64 (d+1)=d+1:=wr1 ar (Jm2 o) aq
 rw[ay]
 have o:=Jm2 o
 cases h
 exact Jz1 λa ha=>⟨k,_,Ja3 _,⟨D,d+1,R,(T6 f i b c j F).wk R,by omega,by omega,s⟩,(ha.mm R)⟩
 refine JT λh=>Jx R<|Je3 R<|Ju<|Ja1<|Jw<|Jw ?_
 cases h
 obtain rfl:=Option.some.inj s
 have h:=yL N
 refine Ja1<|Jq2<|Jw<|Ja2 (l:=[.tmp 4]) V83 (Jp2 R R) R ?_
 cases h
 exact⟨D,R,(A.stp<|T10 n m e g f i b c j F)⟩
 rintro _ ba ⟨ab,rfl,ae,rfl⟩
 have h:=yI N
 refine Jp<|Je3 R<|Ju<|Ja2 (l:=[.tmp 4]) V83 (Jp2 R R) R ?_
 cases h
 exact⟨ab,R,(A.stp<|T5 n m e g ae)⟩
 refine JT λh=>Jx R<|Je3 R<|Ju<|Jw<|Ja2 (l:=[.tmp 4]) V83 (Jp2 R R) R ?_
 cases h
 exact⟨p,R,(A.stp<|T4 n m e g)⟩
theorem dQ {a c}{p0:(List Clause)}{c1_0:Sig}{b}(g:Rd Clause.rp κ w 0 a c p0) (i:Bc κ w 0 b 28 [vi c1_0.In,vi c1_0.Out]){r:Bool}(h:cj p0 c1_0=some r):Ret Tryz.prog 126 [.slice a p0.length c,.func (.func 127) #[] #[.pointer (some ⟨b,0,none⟩)]] w (Pvb κ w r):=by
 unfold cj at h
 refine Jk3 κ F126 R N126 R λj=>Je3 R<|Jg3 [2,2,1,2,2] 2 R<|Ob h λo k h=>Jr3 R C194 (dX (κ:=Mk κ) (c1_0:=c1_0) (Ji3 g) (i.map (mp [] 0) R R) k) ?_
 rintro _ w1 ⟨m,rfl,f⟩
 obtain⟨d,e,n⟩:=Ji f 2 R
 refine Tv<|Jb 2 R<|Ju<|Ja2 (l:=[.tmp 4]) V126 (Jp2 R R) R ?_
 cases h
 exact⟨d,R,(j.stp e)⟩
theorem lA {I K J G F H}{p0:watch}{M}(am:Rd (Rp.sl (Rp.int .i64)) κ w 0 I K p0.next) (an:Rd (Rp.sl (Rp.int .i64)) κ w 0 J G p0.letters) (y:Rd Pair.rp κ w 0 F H p0.pairs) (ao:Bc κ w 0 M 172 [.slice I p0.next.length K,.slice J p0.letters.length G,.slice F p0.pairs.length H]){r:(List Int)}(h:ef p0=some r):Ret Tryz.prog 74 [.pointer (some ⟨M,0,none⟩)] w (Pvs E6 2 κ w r):=by
 unfold ef at h
 refine Jk3 κ F74 R N74 R λap=>Je3 R<|Je [1,2] R<|Jx3 (κ:=κ) (E:=E6) 2 R Y37 bS R λZ aE w1 t i ag=>Tv<|Jb 1 R<|Jq<|Jg3 [2,2,2,1,2,2] 1 R<|Jf R (cI R R)<|Jd3 R U172 R Z69 ?_
 have O:=ao.stp i
 refine Jb3 R I69 (O.ld 2 R R)<|Jn3 R U69 R R<|Jb 1 R ?_
 have av:(p0.pairs.length:Int)<=9223372036854775807:=y.len_le
 refine Ob h λQ ay au=>?_
 clear h
 refine Jo3 [0] (λE L w'=>∃κ',∃s:(List Int),∃n o,L=(3,.slice n s.length o)::E/\Stp [2,3] t w1 κ' w'/\Oc E6 2 κ' w' 2 n o s/\Q=cb s) ?_ ?_
 refine Jv<|Jp3 [0,10,11] (λk E L w'=>∃κ' b,∃g:(List Int),∃m j,L=(3,.slice m g.length j)::(12,vi b)::E/\Stp [2,3] t w1 κ' w'/\Oc E6 2 κ' w' 2 m j g/\0<=b/\hV ((p0.pairs.length:Int)-b)=k/\cntM (eC p0) k b g=some Q) ⟨_,_,⟨t,0,(([]:List Int):(List Int)),Z,aE,R,Jj3,ag,(by decide),(by simp),ay⟩,(KM R)⟩ ?_
 rintro k _ aW ⟨B,b,g,m,j,rfl,e,x,aw,aQ,h⟩
 rcases k with _ | k
 have z:=h;obtain⟨aD,h⟩:=cw (cb (eg g):(List Int)⊕(((List Int))⊕((List Int))))
 have f:decide (b<(p0.pairs.length:Int))=false:=Jo2 (by omega)
 refine Je3 R<|Jq<|Jw2 R f<|Jc1<|Jt<|Jt ?_
 cases h
 have h:=z
 refine Jb1 ?_
 cases h
 exact Jw1 _ ⟨B,g,m,j,R,e.wk R,x,R⟩<|KM R
 obtain⟨aD,h,z⟩:=BI h;unfold eC at h
 have f:decide (b<(p0.pairs.length:Int))=true:=Jn2 (by omega)
 refine Je3 R<|Jq<|Jv2 R f<|Js<|Jp<|Jq<|Jv<|Jg3 [2,2,1,1,2,1] 1 R<|Ob h λaG P h=>Jc3 R y P U69 Z127 ?_
 have N:=y.stp (i.tr e)
 obtain⟨aO,az,ax⟩:=(N).gSt P
 obtain⟨aI,aU,aJ,aV,rfl,ak,al⟩:=Pair.un az
 refine Jb4 tv R (Jc4 (haE ax) I127 Z127 R)<|Jt3 (κ:=B) 3 R X127 R λaN aX C c ae=>Tv<|Jn 1 R<|Jh4 (κ:=C) 3 R Z127 R ae R λaY d af=>Tv<|Jd<|Jg3 [2,1,1,2,2] 1 R<|Jb4 tv R (Jc4 (haE af.cells) I127 Z127 R)<|Ob h λaH aB h=>Jr3 R C149 (n0 (κ:=Mk C) (p1:=aG) (p0:=p0) (Ji3<|am.stp<|T4 i e c d) (Ji3<|an.stp<|T4 i e c d) (Ji3<|N.stp<|c.tr d) (Ji3<|ak.stp<|c.tr d) (Ji3<|al.stp<|c.tr d) ((O.stp<|T3 e c d).map (mp [] 0) R R) aB) ?_
 rintro _ aF ⟨aS,ar,aM,rfl,ac,aP⟩
 obtain⟨u,v,aT⟩:=Ji ac 4 R
 refine Tv<|Jn3 R U37 R R<|Jb 1 R<|Ob h λA h aq=>Jo3 [0,10,11,12] (λE L w'=>∃κ' q p,L=(3,.slice q A.length p)::E/\Stp [2] u aF κ' w'/\Oc E6 2 κ' w' 2 q p A) ?_ ?_
 revert h
 cases aR:decide (0<(aH.length:Int))
 refine JF λh=>Jy R<|Js ?_
 cases h
 exact Jw1 _ ⟨u,m,j,R,Jj3,(x.stp<|T3 c d v)⟩<|KM R
 refine JT λh=>Jx R<|Jh3 [2,2,1,1,2] 2 R<|Jd4 (κ:=u) 7 [b] R Y37 bS R λaL aK a0 U D ai=>Tv<|Ob h λa3 aC h=>Jy3 (κ:=U) (E:=E6) 2 [] R Y37 bS R (x.stp<|T4 c d v D) (Sl.srcP (bY _) ai.rdc) bU aC R λaa ab a1 V Y aj=>Tv<|Jc 1 R ?_
 cases h
 exact Jw1 _ ⟨V,aa,ab,R,(D.tr Y).wk R,aj⟩<|KM R
 rintro _ aZ ⟨T,q,p,rfl,X,ah⟩
 have h:=aq
 refine Jz<|Jp<|Jf3 R ?_
 have aA:bM .i64 (b+1)=b+1:=wr1 aw (Jm2 f) av
 rw[aA]
 have f:=Jm2 f
 cases h
 exact Jz1 λa ha=>⟨k,_,Ja3 _,⟨T,b+1,A,q,p,R,(T5 e c d v X).wk R,ah,by omega,by omega,z⟩,(ha.mm R)⟩
 rintro _ a2 ⟨S,s,n,o,rfl,W,ad,rfl⟩
 have h:=yI au
 refine Jp<|Je3 R<|Ju<|Ja2 (l:=[.tmp 2]) V74 (Jp2 R R) R ?_
 cases h
 exact⟨S,n,o,R,(ap.stp<|i.tr W),ad⟩
theorem ss {p0:Sig}{B H I C}{p1:Clause}{D G J F}{p2:Word}(aF:Rd (Rp.int .i64) κ w 0 B H p1.A) (aG:Rd (Rp.int .i64) κ w 0 I C p1.B) (S:Rd (Rp.int .i64) κ w 0 D G p2.Stem) (T:Rd (Rp.int .i64) κ w 0 J F p2.Loop){r:Bool}(h:dR p0 p1 p2=some r):Ret Tryz.prog 77 [.agg #[vi p0.In,vi p0.Out],.agg #[vi p1.Kind,.slice B p1.A.length H,.slice I p1.B.length C],.agg #[.slice D p2.Stem.length G,.slice J p2.Loop.length F]] w (Pvb κ w r):=by
 unfold dR at h
 refine Jk3 κ F77 R N77 R λm=>Je [1,1,1,2] R<|Js3 (κ:=κ) 2 R λa7 w1 aa i aC=>Tv<|Js3 (κ:=aa) 3 R λa8 bO ac g aE=>Tv<|Js3 (κ:=ac) 4 R λa9 bV V f K=>Tv<|Jb 1 R<|Jq<|Je [1,1,1,2,2,1,1,1,2,2] R ?_
 have M:=aC.stp (g.tr f)
 refine Jb4 tv R (Jc4 (haE M.cells) I28 Z28 R) ?_
 have P:=aE.stp f
 refine Jb4 tv R (Jc4 (haE P.cells) I67 Z67 R)<|Ob h λaZ aJ h=>?_
 have k:=aF.stp (T3 i g f)
 have s:=aG.stp (T3 i g f)
 refine Jr3 R C150 (lK (κ:=Mk V) (p0:=p0) (p1:=p1) (Ji3 k) (Ji3 s) aJ) ?_
 rintro _ aY ⟨bo,rfl,aw⟩
 obtain⟨x,c,bA⟩:=Ji aw 5 R
 refine Tv<|Jn 2 R<|Ob h λU h aI=>Jf4 [4,5] 17 U x aY [(5,1),(6,1),(7,1),(8,2),(9,2)] [] tv ?_ ?_
 revert h
 cases bd:(!aZ)
 have y:=(T4 i g f c)
 refine JF λh=>Jb4 tv R (Jc4 (haE (M.stp c).cells) I28 Z28 R)<|Jb4 tv R (Jc4 (haE (K.stp c).cells) I39 Z39 R)<|Ob h λbW aK h=>Jr3 R C76 (po (κ:=Mk x) (p0:=p0) (p1:=p2) (Ji3<|S.stp y) (Ji3<|T.stp y) aK) ?_
 rintro _ bK ⟨bp,rfl,ax⟩
 obtain⟨a2,al,bB⟩:=Ji ax 7 R
 refine Tv<|Jn 2 R ?_
 cases h
 exact Jv1 _ tv ⟨R,_,al.wk R⟩<|KM R
 refine JT λh=>Jz3 R<|Jz3 R<|Jz3 R<|Jn 2 R ?_
 cases h
 exact Jg4 tv R
 rintro _ bL _ ⟨rfl,u,d⟩
 have h:=aI
 refine Jd ?_
 revert h
 cases be:U
 refine JF λh=>Jy R<|Js<|Jp<|Jq<|Js1 (κ:=u) [4] none [(0,2),(3,2),(1,0),(4,0),(2,1),(5,1),(6,2)] [] (by kernel_rfl) (by kernel_rfl) λbM e=>Jd3 R U39 R Z37<|Jd3 R U39 R Z37 ?_
 have o:=K.stp (T3 c d e)
 refine Jg R (Jc2 I37 R R<|hvC (o.ld 0 R R) R)<|Jg R (Jc2 I37 R R<|hvC (o.ld 1 R R) R)<|Ob h λbX aL h=>?_
 have Q:=S.stp (T6 i g f c d e)
 refine Jr3 R C131 (eb (κ:=Mk u) (Ji3 Q) aL) ?_
 rintro _ bN ⟨bq,a6,a4,rfl,ay,aD⟩
 obtain⟨ab,b,aV⟩:=Ji ay 7 R
 refine⟨(b.cl R),Ob h λbZ aM h=>?_⟩
 have q:=T.stp (T7 i g f c d e b)
 refine Jy3 (κ:=ab) (E:=E6) 9 [] R Y37 bS R (aD.mx (cc _) aV R (R:7+2=9)) (Sl.srcP (bY _) q) bU aM R λa3 a5 bP n a t=>⟨((b.tr a).cl R),Jn 1 R<|Jt1<|Jd<|Jq<|Je [2,1] R<|Jd3 R U67 R Z2 ?_⟩
 have j:=P.stp (T5 c d e b a)
 refine Jb3 R I2 (j.ld 0 R R)<|Jd<|Jv<|Je3 R ?_
 revert h
 cases bf:(p1.Kind==1)
 refine JF λh=>Jy R<|Je3 R ?_
 revert h
 cases bg:(p1.Kind==2)
 refine JF λh=>Jy R<|Je3 R ?_
 revert h
 cases bh:(p1.Kind==3)
 refine JF λh=>Jy R<|Je3 R ?_
 revert h
 cases bi:(p1.Kind==4)
 refine JF λh=>Jy R<|Je3 R ?_
 revert h
 cases ba:(p1.Kind==5)
 refine JF λh=>Jy R<|Je3 R ?_
 revert h
 cases bb:(p1.Kind==6)
 refine JF λh=>Jy R<|Js<|Jz<|Jp<|Je [2,1,2,1,1,2,2,2,1,2,1,1,2,2] R<|Jd3 R U39 R Z37 ?_
 have N:=o.stp (b.tr a)
 refine Jb3 R I37 (N.ld 1 R R)<|Jd3 R U67 R Z37<|Jb3 R I37 (j.ld 1 R R)<|Ob h λa0 aT h=>?_
 have O:=q.stp a
 refine Jr3 R C155 (ic (κ:=Mk n) (Ji3 O) (Ji3<|k.stp<|T5 c d e b a) aT) ?_
 rintro _ aX ⟨bm,rfl,au⟩
 obtain⟨v,p,bx⟩:=Ji au 10 R
 refine Tv<|Jn 2 R<|Ob h λaW h aH=>Ju1 [(7,2),(8,1),(9,2),(10,1),(11,1),(12,2)] [(13,2)] (λL w'=>L=[(78,.bool aW)]/\∃κ',Stp [] v aX κ' w') tv ?_ ?_
 revert h
 cases bc:(!a0)
 refine JF λh=>Jd3 R U39 R Z37<|Jb3 R I37 ((N.stp p).ld 1 R R)<|Jd3 R U67 R Z37<|Jb3 R I37 ((j.stp p).ld 2 R R)<|Ob h λb6 aU h=>Jr3 R C155 (ic (κ:=Mk v) (Ji3<|O.stp p) (Ji3<|s.stp<|T6 c d e b a p) aU) ?_
 rintro _ bI ⟨bn,rfl,av⟩
 obtain⟨a1,aj,bz⟩:=Ji av 12 R
 refine Tv<|Jn 1 R ?_
 cases h
 exact Jv1 _ tv ⟨R,_,aj.wk R⟩<|KM R
 refine JT λh=>Jn 1 R<|Jz3 R<|Jn 1 R<|Jz3 R<|Jz3 R<|Jn 1 R ?_
 cases h
 exact Jg4 tv R
 rintro _ bJ _ ⟨rfl,Z,ak⟩
 have h:=aH
 refine Jb 1 R<|Ju<|Ja2 (l:=[.tmp 6]) V77 (Jp2 R R) R ?_
 cases h
 exact⟨Z,R,(m.stp<|T10 i g f c d e b a p ak)⟩
 refine JT λh=>Jx R<|Jg3 [2,2,1,1,2] 1 R<|Jd3 R U67 R Z37<|Jb3 R I37 (j.ld 1 R R)<|Ob h λb5 aS h=>Jr3 R C155 (ic (κ:=Mk n) (Ji3 t.rdc) (Ji3<|k.stp<|T5 c d e b a) aS) ?_
 rintro _ bH ⟨bl,rfl,ar⟩
 obtain⟨Y,ai,bw⟩:=Ji ar 10 R
 refine Tv<|Jb 1 R<|Ju<|Ja1<|Jw<|Ja2 (l:=[.tmp 6]) V77 (Jp2 R R) R ?_
 cases h
 exact⟨Y,R,(m.stp<|T9 i g f c d e b a ai)⟩
 refine JT λh=>Jx R<|Je [2,1,2,1,1,2] R<|Jd3 R U39 R Z37<|Jb3 R I37 ((o.stp<|b.tr a).ld 1 R R)<|Jd3 R U67 R Z37<|Jb3 R I37 (j.ld 1 R R)<|Ob h λb4 aR h=>Jr3 R C152 (oJ (κ:=Mk n) (Ji3<|q.stp a) (Ji3<|k.stp<|T5 c d e b a) aR) ?_
 rintro _ bG ⟨bk,rfl,aq⟩
 obtain⟨X,ah,bv⟩:=Ji aq 10 R
 refine Tv<|Jb 1 R<|Ju<|Ja1<|Jw<|Ja2 (l:=[.tmp 6]) V77 (Jp2 R R) R ?_
 cases h
 exact⟨X,R,(m.stp<|T9 i g f c d e b a ah)⟩
 refine JT λh=>Jx R<|Je [2,1,2,1,1,2] R<|Jd3 R U39 R Z37<|Jb3 R I37 ((o.stp<|b.tr a).ld 1 R R)<|Jd3 R U67 R Z37<|Jb3 R I37 (j.ld 1 R R)<|Ob h λb3 aQ h=>Jr3 R C155 (ic (κ:=Mk n) (Ji3<|q.stp a) (Ji3<|k.stp<|T5 c d e b a) aQ) ?_
 rintro _ bF ⟨bj,rfl,ap⟩
 obtain⟨W,ag,bu⟩:=Ji ap 10 R
 refine Tv<|Jb 1 R<|Ju<|Ja1<|Jw<|Ja2 (l:=[.tmp 6]) V77 (Jp2 R R) R ?_
 cases h
 exact⟨W,R,(m.stp<|T9 i g f c d e b a ag)⟩
 have z:=(T5 c d e b a)
 refine JT λh=>Jx R<|Je [1,1,2,1,2] R<|Jb4 tv R (Jc4 (haE j.cells) I67 Z67 R)<|Jb4 tv R (Jc4 (haE (o.stp<|b.tr a).cells) I39 Z39 R)<|Jn 1 R<|Ob h λb2 aP h=>Jr3 R C154 (qw (κ:=Mk n) (p0:=p1) (p1:=p2) (Ji3<|k.stp z) (Ji3<|s.stp z) (Ji3<|Q.stp<|b.tr a) (Ji3<|q.stp a) (Ji3 t.rdc) aP) ?_
 rintro _ bT ⟨bt,rfl,aB⟩
 obtain⟨af,ao,bE⟩:=Ji aB 10 R
 refine Tv<|Jb 1 R<|Ju<|Ja1<|Jw<|Ja2 (l:=[.tmp 6]) V77 (Jp2 R R) R ?_
 cases h
 exact⟨af,R,(m.stp<|T9 i g f c d e b a ao)⟩
 have A:=(T5 c d e b a)
 refine JT λh=>Jx R<|Je [1,2,2,1,2,1,2] R<|Jb4 tv R (Jc4 (haE j.cells) I67 Z67 R)<|Jn 1 R<|Jd3 R U39 R Z37<|Jb3 R I37 ((o.stp<|b.tr a).ld 0 R R)<|Jn3 R U37 R R<|Ob h λb1 aO h=>Jr3 R C153 (sF (κ:=Mk n) (p0:=p1) (Ji3<|k.stp A) (Ji3<|s.stp A) (Ji3 t.rdc) aO) ?_
 rintro _ bR ⟨bs,rfl,aA⟩
 obtain⟨ae,an,bD⟩:=Ji aA 10 R
 refine Tv<|Jb 1 R<|Ju<|Ja1<|Jw<|Ja2 (l:=[.tmp 6]) V77 (Jp2 R R) R ?_
 cases h
 exact⟨ae,R,(m.stp<|T9 i g f c d e b a an)⟩
 refine JT λh=>Jx R<|Jg3 [2,2,1,1,2] 1 R<|Jd3 R U67 R Z37<|Jb3 R I37 (j.ld 1 R R)<|Ob h λb0 aN h=>Jr3 R C152 (oJ (κ:=Mk n) (Ji3 t.rdc) (Ji3<|k.stp<|T5 c d e b a) aN) ?_
 rintro _ bQ ⟨br,rfl,az⟩
 obtain⟨ad,am,bC⟩:=Ji az 10 R
 refine Tv<|Jb 1 R<|Ju<|Ja1<|Jw<|Ja2 (l:=[.tmp 6]) V77 (Jp2 R R) R ?_
 cases h
 exact⟨ad,R,(m.stp<|T9 i g f c d e b a am)⟩
 refine JT λh=>Jx R<|Je3 R<|Ju<|Jw<|Ja2 (l:=[.tmp 6]) V77 (Jp2 R R) R ?_
 cases h
 exact⟨u,R,(m.stp<|T5 i g f c d)⟩
theorem pj {k i m j}{p0:Word}{p1:Int}(A:Rd (Rp.int .i64) κ w 0 k i p0.Stem) (B:Rd (Rp.int .i64) κ w 0 m j p0.Loop){r:Bool}(h:lO p0 p1=some r):Ret Tryz.prog 100 [.agg #[.slice k p0.Stem.length i,.slice m p0.Loop.length j],vi p1] w (Pvb κ w r):=by
 unfold lO at h
 refine Jk3 κ F100 R N100 R λC=>Je [1,2] R<|Js3 (κ:=κ) 2 R λP w1 q e c=>Tv<|Jb 1 R<|Je [2,1,2,2,2,2,1,2,2,2,2,2,1,2,2,2,2,2,1,2,1,2,2,2,1,2,1,2,2] R<|Jd3 R U39 R Z37<|Jb3 R I37 (c.ld 0 R R)<|Jn3 R U37 R R<|Jn 2 R<|Ob h λn h G=>Jf4 [1,2,4] 14 n q w1 [(5,2),(6,1),(7,2),(8,2),(9,2)] [(10,2),(11,2),(12,1),(13,2),(14,2),(15,2),(16,2),(17,2),(18,1),(19,2),(20,1),(21,2),(22,2),(23,2),(24,1),(25,2),(26,1),(27,2),(28,2)] tv ?_ ?_
 revert h
 cases U:decide ((p0.Stem.length:Int)<=600)
 refine JF λh=>Jn 1 R<|Jz3 R<|Jn 3 R ?_
 cases h
 exact Jg4 tv R
 refine JT λh=>Jd3 R U39 R Z37<|Jb3 R I37 (c.ld 1 R R)<|Jn3 R U37 R R<|Jn 2 R ?_
 cases h
 exact Jg4 tv R
 rintro _ M _ ⟨rfl,t,a⟩
 have h:=G
 refine Jn 1 R<|Ob h λo h D=>Jf4 [1,2,4] 20 o t M [(11,2),(12,1),(13,2),(14,2),(15,2)] [(16,2),(17,2),(18,1),(19,2),(20,1),(21,2),(22,2),(23,2),(24,1),(25,2),(26,1),(27,2),(28,2)] tv ?_ ?_
 revert h
 cases Q:n
 refine JF λh=>Jn 1 R<|Jz3 R<|Jn 3 R ?_
 cases h
 exact Jg4 tv R
 refine JT λh=>Jd3 R U39 R Z37<|Jb3 R I37 ((c.stp a).ld 1 R R)<|Jn3 R U37 R R<|Jn 2 R ?_
 cases h
 exact Jg4 tv R
 rintro _ K _ ⟨rfl,f,b⟩
 have h:=D
 refine Jn 1 R<|Ob h λp h E=>Jf4 [1,2,4] 26 p f K [(17,2),(18,1),(19,2),(20,1),(21,2)] [(22,2),(23,2),(24,1),(25,2),(26,1),(27,2),(28,2)] tv ?_ ?_
 revert h
 cases S:o
 refine JF λh=>Jn 1 R<|Jz3 R<|Jn 1 R<|Jz3 R<|Jn 1 R ?_
 cases h
 exact Jg4 tv R
 refine JT λh=>Jd3 R U39 R Z37<|Jb3 R I37 ((c.stp<|a.tr b).ld 0 R R)<|Jn 1 R<|Ob h λac H h=>Jr3 R C159 (iF (κ:=Mk f) (Ji3<|A.stp<|T3 e a b) H) ?_
 rintro _ Z ⟨V,rfl,y⟩
 obtain⟨N,u,X⟩:=Ji y 3 R
 refine Tv<|Jn 1 R ?_
 cases h
 exact Jv1 _ tv ⟨R,_,u.wk R⟩<|KM R
 rintro _ L _ ⟨rfl,g,d⟩
 have h:=E
 refine Jn 1 R<|Ob h λJ h F=>Jf4 [4] 32 J g L [(23,2),(24,1),(25,2),(26,1),(27,2)] [(28,2)] tv ?_ ?_
 revert h
 cases T:p
 refine JF λh=>Jn 1 R<|Jz3 R<|Jn 1 R<|Jz3 R<|Jn 1 R ?_
 cases h
 exact Jg4 tv R
 refine JT λh=>Jd3 R U39 R Z37<|Jb3 R I37 ((c.stp<|T3 a b d).ld 1 R R)<|Jn 1 R<|Ob h λad I h=>Jr3 R C159 (iF (κ:=Mk g) (Ji3<|B.stp<|T4 e a b d) I) ?_
 rintro _ aa ⟨W,rfl,z⟩
 obtain⟨O,v,Y⟩:=Ji z 3 R
 refine Tv<|Jn 1 R ?_
 cases h
 exact Jv1 _ tv ⟨R,_,v.wk R⟩<|KM R
 rintro _ ab _ ⟨rfl,s,x⟩
 have h:=F
 refine Jb 1 R<|Ju<|Ja2 (l:=[.tmp 4]) V100 (Jp2 R R) R ?_
 cases h
 exact⟨s,R,(C.stp<|T5 e a b d x)⟩
theorem dV {m z}{p0:(List Int)}{q p n o}{c1_0_0:Clause}{s t}(f:Rd (Rp.int .i64) κ w 0 m z p0) (D:Rd (Rp.int .i64) κ w 0 q p c1_0_0.A) (F:Rd (Rp.int .i64) κ w 0 n o c1_0_0.B) (G:Bc κ w 0 s 91 [.func (.func 255) #[] #[.pointer (some ⟨t,0,none⟩)]]) (H:Bc κ w 0 t 67 [vi c1_0_0.Kind,.slice q c1_0_0.A.length p,.slice n c1_0_0.B.length o]){r:Int}(h:cq p0 c1_0_0=some r):Ret Tryz.prog 47 [.slice m p0.length z,.func (.func 257) #[] #[.pointer (some ⟨s,0,none⟩)]] w (Pvi κ w r):=by
 unfold cq at h
 refine Jk3 κ F47 R N47 R λu=>Je3 R<|Jq<|Jg3 [2,2,2] 1 R<|Jn3 R U37 R R<|Jb 1 R ?_
 have I:(p0.length:Int)<=9223372036854775807:=f.len_le
 refine Ob h λy K v=>?_
 clear h
 refine Jo3 [1] (λE L w'=>∃κ',L=E/\Stp [] κ w κ' w'/\y=cb ()) ?_ ?_
 refine Jv<|Jp3 [0,1,7] (λk E L w'=>∃κ' b,L=(8,vi b)::E/\Stp [] κ w κ' w'/\0<=b/\hV ((p0.length:Int)-b)=k/\cntM (ck p0 c1_0_0) k b ()=some y) ⟨_,_,⟨κ,0,R,Jj3,(by decide),(by simp),K⟩,(KM R)⟩ ?_
 rintro k _ X ⟨i,b,rfl,c,J,Q,h⟩
 rcases k with _ | k
 have e:=h;obtain⟨O,h⟩:=cw (cb (eg ()):Int⊕((Unit)⊕(Unit)))
 have d:decide (b<(p0.length:Int))=false:=Jo2 (by omega)
 refine Je3 R<|Jq<|Jw2 R d<|Jc1<|Jt<|Jt ?_
 cases h
 have h:=e
 refine Jb1 ?_
 cases h
 exact Jw1 _ ⟨i,R,c.wk R,R⟩<|KM R
 obtain⟨O,h,e⟩:=BI h;unfold ck at h
 have d:decide (b<(p0.length:Int))=true:=Jn2 (by omega)
 refine Je3 R<|Jq<|Jv2 R d<|Js<|Jp<|Jq<|Jv<|Je3 R<|Jg3 [2,2,2,2,1,1] 3 R<|Ob h λY x h=>Jc3 R f x U37 Z2<|Jb3 R I2 ((f.stp c).gInt x)<|Ob h λP N h=>WO.callV R R R R R R R R C257 (km (κ:=Mk i) (c1_0:=c1_0_0) (Ji3<|D.stp c) (Ji3<|F.stp c) ((G.stp c).map (mp [] 0) R R) ((H.stp c).map (mp [] 0) R R) N) ?_
 rintro _ V ⟨T,rfl,C⟩
 obtain⟨g,j,U⟩:=Ji C 2 R
 refine Tv<|Jd ?_
 revert h
 cases S:P
 refine JF λh=>Jy R<|Js<|Jz<|Jp<|Jf3 R ?_
 have M:bM .i64 (b+1)=b+1:=wr1 J (Jm2 d) I
 rw[M]
 have d:=Jm2 d
 cases h
 exact Jz1 λa ha=>⟨k,_,Ja3 _,⟨g,b+1,R,(c.tr j).wk R,by omega,by omega,e⟩,(ha.mm R)⟩
 refine JT λh=>Jx R<|Je3 R<|Ju<|Ja1<|Jw<|Jw ?_
 cases h
 obtain rfl:=Option.some.inj e
 have h:=yL v
 refine Ja1<|Jq2<|Jw<|Ja2 (l:=[.tmp 4]) V47 (Jp2 R R) R ?_
 cases h
 exact⟨g,R,(u.stp<|c.tr j)⟩
 rintro _ W ⟨A,rfl,B,rfl⟩
 have h:=yI v
 refine Jp<|Je3 R<|Ju<|Ja2 (l:=[.tmp 4]) V47 (Jp2 R R) R ?_
 cases h
 exact⟨A,R,(u.stp B)⟩
theorem dr {a g}{p0:(List Int)}{e c b d}{c1_0:Clause}{f}(m:Rd (Rp.int .i64) κ w 0 a g p0) (n:Rd (Rp.int .i64) κ w 0 e c c1_0.A) (o:Rd (Rp.int .i64) κ w 0 b d c1_0.B) (p:Bc κ w 0 f 67 [vi c1_0.Kind,.slice e c1_0.A.length c,.slice b c1_0.B.length d]){r:Bool}(h:cn p0 c1_0=some r):Ret Tryz.prog 216 [.slice a p0.length g,.func (.func 256) #[] #[.pointer (some ⟨f,0,none⟩)]] w (Pvb κ w r):=by
 unfold cn at h
 refine Jk3 κ F216 R N216 R λq=>Je3 R<|Jg3 [2,2,1,2,2] 2 R<|Ob h λv s h=>Jr3 R C47 (gg (κ:=Mk κ) (c1_0:=c1_0) (Ji3 m) (Ji3 n) (Ji3 o) (p.map (mp [] 0) R R) s) ?_
 rintro _ w1 ⟨t,rfl,k⟩
 obtain⟨i,j,u⟩:=Ji k 2 R
 refine Tv<|Jb 2 R<|Ju<|Ja2 (l:=[.tmp 4]) V216 (Jp2 R R) R ?_
 cases h
 exact⟨i,R,(q.stp j)⟩
theorem cS {a g}{p0:(List Int)}{e c b d}{c1_0:Clause}{f}(m:Rd (Rp.int .i64) κ w 0 a g p0) (n:Rd (Rp.int .i64) κ w 0 e c c1_0.A) (o:Rd (Rp.int .i64) κ w 0 b d c1_0.B) (p:Bc κ w 0 f 67 [vi c1_0.Kind,.slice e c1_0.A.length c,.slice b c1_0.B.length d]){r:Bool}(h:cg p0 c1_0=some r):Ret Tryz.prog 216 [.slice a p0.length g,.func (.func 255) #[] #[.pointer (some ⟨f,0,none⟩)]] w (Pvb κ w r):=by
 unfold cg at h
 refine Jk3 κ F216 R N216 R λq=>Je3 R<|Jg3 [2,2,1,2,2] 2 R<|Ob h λv s h=>Jr3 R C47 (gc (κ:=Mk κ) (c1_0:=c1_0) (Ji3 m) (Ji3 n) (Ji3 o) (p.map (mp [] 0) R R) s) ?_
 rintro _ w1 ⟨t,rfl,k⟩
 obtain⟨i,j,u⟩:=Ji k 2 R
 refine Tv<|Jb 2 R<|Ju<|Ja2 (l:=[.tmp 4]) V216 (Jp2 R R) R ?_
 cases h
 exact⟨i,R,(q.stp j)⟩
theorem uH {c e}{p0:(List Int)}{p1:Int}(d:Rd (Rp.int .i64) κ w 0 c e p0){r:Bool}(h:pJ p0 p1=some r):Ret Tryz.prog 31 [.slice c p0.length e,vi p1] w (Pvb κ w r):=by
 unfold pJ at h
 refine Jk3 κ F31 R N31 R λm=>Je3 R<|Jg3 [2,1,2,2,2,1,2,2] 1 R<|Ob h λs p h=>Jr3 R C80 (oc (κ:=Mk κ) (Ji3 d) p) ?_
 rintro _ w1 ⟨x,rfl,k⟩
 obtain⟨a,b,z⟩:=Ji k 2 R
 refine Tv<|Jn 1 R<|Ob h λq h n=>Jf4 [4] 11 q a w1 [(3,2),(4,2),(5,1),(6,2)] [(7,2)] tv ?_ ?_
 revert h
 cases u:s
 refine JF λh=>Jn 2 R<|Jz3 R<|Jn 1 R ?_
 cases h
 exact Jg4 tv R
 refine JT λh=>Jn 2 R<|Ob h λC o h=>Jr3 R C81 (eN (κ:=Mk a) (Ji3<|d.stp b) o) ?_
 rintro _ A ⟨v,rfl,j⟩
 obtain⟨t,g,y⟩:=Ji j 4 R
 refine Tv<|Jn 1 R ?_
 cases h
 exact Jv1 _ tv ⟨R,_,g.wk R⟩<|KM R
 rintro _ B _ ⟨rfl,f,i⟩
 have h:=n
 refine Jb 1 R<|Ju<|Ja2 (l:=[.tmp 4]) V31 (Jp2 R R) R ?_
 cases h
 exact⟨f,R,(m.stp<|b.tr i)⟩
end Go.Proofs.YtleekpaohfpooaaGreat
