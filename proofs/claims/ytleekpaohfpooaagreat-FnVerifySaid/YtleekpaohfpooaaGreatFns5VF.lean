/- The walks, part 5. By program. -/
import Derived.Test.YtleekpaohfpooaaGreatFns2VF
import Derived.Test.YtleekpaohfpooaaGreatFns3VF
set_option linter.unusedVariables false
set_option linter.unusedSimpArgs false
open Sum renaming inr → cb
namespace Go.Proofs.YtleekpaohfpooaaGreat
open Go Go.Wk Go.Proofs
set_option maxRecDepth 100000
set_option maxHeartbeats 1000000
variable {w:World}{κ:Col}
theorem fh {p0:Sig}  {r:Int}(h:dx p0=some r):Ret Tryz.prog 120 [.agg #[vi p0.In,vi p0.Out]] w (Pvi κ w r):=by
 unfold dx at h
 refine Jk3 κ F120 R N120 R λf=>Je [1,2] R<|Js3 (κ:=κ) 2 R λq w1 i c e=>Tv<|Jb 1 R<|Jq<|Je [1,1,2] R<|Jb4 tv R (Jc4 (haE e.cells) I28 Z28 R)<|Ob h λp o h=>Jr3 R C58 (iK (κ:=Mk i) (p0:=p0) o) ?_
 rintro _ z ⟨u,rfl,m⟩
 obtain⟨b,a,v⟩:=Ji m 3 R
 refine Tv<|Jb 1 R ?_
 revert h
 cases s:(!p)
 refine JF λh=>Jy R<|Js<|Jp<|Je [2,1,2,1,2,1,2] R<|Jd3 R U28 R Z2 ?_
 have d:=e.stp a
 refine Jb3 R I2 (d.ld 0 R R)<|Jd3 R U28 R Z2<|Jb3 R I2 (d.ld 1 R R)<|Jn 1 R<|Ob h λA n h=>Jr3 R C62 (dI (κ:=Mk b) n) ?_
 rintro _ y ⟨t,rfl,k⟩
 obtain⟨g,j,x⟩:=Ji k 5 R
 refine Tv<|Jb 1 R<|Ju<|Ja2 (l:=[.tmp 2]) V120 (Jp2 R R) R ?_
 cases h
 exact⟨g,R,(f.stp<|T3 c a j)⟩
 refine JT λh=>Jx R<|Je3 R<|Ju<|Jw<|Ja2 (l:=[.tmp 2]) V120 (Jp2 R R) R ?_
 cases h
 exact⟨b,R,(f.stp<|c.tr a)⟩
theorem qy {aO aQ aP aM}{p0:Det}{aL aS aN aR}{p1:Det}{p2:Int}(a7:Rd (Rp.sl (Rp.int .i64)) κ w 0 aO aQ p0.Next) (ct:Rd Pair.rp κ w 0 aP aM p0.Pairs) (a8:Rd (Rp.sl (Rp.int .i64)) κ w 0 aL aS p1.Next) (cv:Rd Pair.rp κ w 0 aN aR p1.Pairs){r:Det×Bool}(h:fu p0 p1 p2=some r):Ret Tryz.prog 186 [.agg #[.slice aO p0.Next.length aQ,.slice aP p0.Pairs.length aM],.agg #[.slice aL p1.Next.length aS,.slice aN p1.Pairs.length aR],vi p2] w (λv w'=>∃(κ':Col) (bl:Option Addr) (bn:Nat) (bm:Option Addr) (bo:Nat),v= .tuple #[.agg #[.slice bl r.1.Next.length bn,.slice bm r.1.Pairs.length bo],.bool r.2]/\Ent κ w κ' w'/\Oc (Ep.own E6 2) 37 κ' w' 2 bl bn r.1.Next/\Oc Pair.ep127 127 κ' w' 3 bm bo r.1.Pairs):=by
 unfold fu at h
 refine Jk3 κ F186 R N186 R λa9=>Je [1,1,1,2] R<|Js3 (κ:=κ) 2 R λc7 w1 bD A aX=>Tv<|Js3 (κ:=bD) 3 R λc8 dM bE t a5=>Tv<|Jt3 (κ:=bE) 4 R X71 R λc9 dR bs i aU=>Tv<|Jb 1 R<|Je [1,1,2] R<|Jd4 (κ:=bs) 5 [0,0] R Y37 bS R λbO bW dy bz f cc=>Tv<|Jw3 (κ:=bz) (E:=(Ep.own E6 2)) 6 [5] (parts:=[(0,.tmp 16)]) (cells:=[.slice bO ([0,0]:List Int).length bW]) (xs:=([([0,0]:List Int)]:List (List Int))) R Y31 bZ R (Je4 ⟨_,_,R,cc⟩) λbM bQ dF bC g ci=>Tv<|Jb 1 R<|Je [2,1,1] R<|Jf R (Ji4 [.slice none 0 0,.slice none 0 0] R)<|Jt3 (κ:=bC) 7 R X71 R λaT dJ Q d cj=>Tv<|Jh4 (κ:=Q) 7 R Z71 R cj R λbp e ck=>Tv<|Jd<|Jq<|Je3 R<|Ob h λbj cF ba=>?_
 clear h
 refine Jo3 [3,4,6,9] (λE L w'=>∃κ',∃x:(List<|List Int)×Int×(List<|List Int),∃aq au K I,L=(8,.slice aq x.1.length au)::E/\Stp [6,7,8,9,10,12,13] Q bp κ' w'/\Oc (Ep.own E6 2) 37 κ' w' 6 aq au x.1/\Oc (Ep.own E6 2) 37 κ' w' 8 K I x.2.2/\Bc κ' w' 7 aT 71 [.slice K x.2.2.length I,.slice none 0 0]/\bj=cb x) ?_ ?_
 refine Jv<|Jp3 [2,3,4,6,9] (λk E L w'=>∃κ',∃c:(List<|List Int)×Int×(List<|List Int),∃O J V aa,L=(8,.slice O c.1.length J)::(10,vi c.2.1)::E/\Stp [6,7,8,9,10,12,13] Q bp κ' w'/\Oc (Ep.own E6 2) 37 κ' w' 6 O J c.1/\Oc (Ep.own E6 2) 37 κ' w' 8 V aa c.2.2/\Bc κ' w' 7 aT 71 [.slice V c.2.2.length aa,.slice none 0 0]/\cu (gM p0 p1 p2) k c=some bj) ⟨_,_,⟨Q,((([([0,0]:List Int)]:List (List Int)):(List<|List Int)),(0:Int),(([]:List (List Int)):(List<|List Int))),bM,bQ,none,0,R,Jj3,(ci.stp<|d.tr e),Ow.nil,ck,cF⟩,(KM R)⟩ ?_
 rintro k _ dL ⟨aG,c,O,J,V,aa,rfl,s,aY,aZ,a0,h⟩
 rcases k with _ | k
 cases h
 obtain⟨dm,h,az⟩:=BI h;unfold gM at h
 refine Jq<|Jg3 [2,2,2,2] 2 R<|Jn3 R U31 R R<|Jb 1 R ?_
 revert h
 cases df:decide (c.2.1<(c.1.length:Int))
 refine JF λh=>Jy R<|Jc1<|Jt<|Jt ?_
 cases h
 have h:=az
 refine Jb1 ?_
 cases h
 exact Jw1 _ ⟨aG,(c.1,c.2.1,c.2.2),O,J,V,aa,R,s.wk R,aY,aZ,a0,R⟩<|KM R
 refine JT λh=>Jx R<|Js<|Jp<|Jq<|Jv<|Je [1,2] R<|Jx3 (κ:=aG) (E:=E6) 9 R Y37 bS R λbK bP bq ah j co=>Tv<|Jb 1 R<|Jq<|Je3 R<|Ob h λ_ cH h=>?_
 have cz:=ms cH
 refine Ob h λbk cG cx=>?_
 clear h
 refine Jo3 [2,3,4,6,9,10] (λE L w'=>∃κ',∃m:(List<|List Int)×(List Int),∃ac Y X W,L=(8,.slice ac m.1.length Y)::(11,.slice X m.2.length W)::E/\Stp [6,9,12,13] ah bq κ' w'/\Oc (Ep.own E6 2) 37 κ' w' 6 ac Y m.1/\Oc E6 2 κ' w' 9 X W m.2/\bk=cb m) ?_ ?_
 refine Jv<|Jp3 [2,3,4,6,9,10] (λk E L w'=>∃κ' n,∃p:(List<|List Int)×(List Int),∃N M Z ab,L=(8,.slice N p.1.length M)::(11,.slice Z p.2.length ab)::(12,vi n)::E/\Stp [6,9,12,13] ah bq κ' w'/\Oc (Ep.own E6 2) 37 κ' w' 6 N M p.1/\Oc E6 2 κ' w' 9 Z ab p.2/\0<=n/\Int.toNat (p2-n)=k/\cntM (fk p0 p1 c) k n p=some bk) ⟨_,_,⟨ah,0,(c.1,(([]:List Int):(List Int))),O,J,bK,bP,R,Jj3,(aY.stp j),co,(by decide),(by simp),cG⟩,(KM R)⟩ ?_
 rintro k _ dO ⟨S,n,p,N,M,Z,ab,rfl,C,ax,a1,cA,dd,h⟩
 rcases k with _ | k
 have aA:=h;obtain⟨cS,h⟩:=cw (cb (Sum.inl p):(Det×Bool)⊕(((List (List Int))×(List Int))⊕((List (List Int))×(List Int))))
 have D:decide (n<p2)=false:=Jo2 (by omega)
 refine Jq<|Je3 R<|Jw2 R D<|Jc1<|Jt<|Jt ?_
 cases h
 have h:=aA
 refine Jb1 ?_
 cases h
 exact Jw1 _ ⟨S,(p.1,p.2),N,M,Z,ab,R,C.wk R,ax,a1,R⟩<|KM R
 obtain⟨cS,h,aA⟩:=BI h;unfold fk at h
 have D:decide (n<p2)=true:=Jn2 (by omega)
 refine Jq<|Je3 R<|Jv2 R D<|Js<|Jp<|Jq<|Jv<|Jq<|Js1 (κ:=S) [0,2,6] none [(0,2),(2,2),(3,2),(4,2),(10,2),(1,0),(5,0),(6,2),(7,0),(8,2),(9,0),(11,2),(12,0),(13,2)] [] (by kernel_rfl) (by kernel_rfl) λdP u=>Jd3 R U71 R Z31<|Jn 2 R<|Ob h λdU bb h=>Jc3 R ax.rdc bb U31 Z37<|Jn 1 R<|Jg R (Jc2 I31 R R<|hvC ((aX.stp<|T10 t i f g d e s j C u).ld 0 R R) R) ?_
 have ay:=ax.stp u
 obtain⟨c3,dn,a2,cB⟩:=ay.rdc.gSl bb
 refine Jg R (Jc2 I37 R R<|hvC cB R)<|Ob h λdV bc h=>Jc3 R a2 bc U37 Z2<|Jg R (Jc2 I2 R R<|hvC (a2.gInt bc) R)<|Ob h λdW bd h=>Jc3 R a7 bd U31 Z37 ?_
 obtain⟨c4,dp,a3,cC⟩:=(a7.stp (T11 A t i f g d e s j C u)).gSl bd
 refine Jg R (Jc2 I37 R R<|hvC cC R)<|Ob h λaB be h=>Jc3 R a3 be U37 Z2<|Jg R (Jc2 I2 R R<|hvC (a3.gInt be) R)<|Jn 1 R<|Jt1<|Jd<|Jq<|Js1 (κ:=S) [0,3,6] none [(0,2),(2,2),(3,2),(4,2),(10,2),(1,0),(5,0),(6,2),(7,0),(8,2),(9,0),(11,2),(12,0),(13,2)] [] (by kernel_rfl) (by kernel_rfl) λdQ H=>Jd3 R U71 R Z31<|Jn 2 R<|Ob h λdX bf h=>Jc3 R ay.rdc bf U31 Z37<|Jn 1 R<|Jg R (Jc2 I31 R R<|hvC ((a5.stp<|T10 i f g d e s j C u H).ld 0 R R) R) ?_
 have af:=ay.stp H
 obtain⟨c5,dq,a4,cD⟩:=af.rdc.gSl bf
 refine Jg R (Jc2 I37 R R<|hvC cD R)<|Ob h λdY bg h=>Jc3 R a4 bg U37 Z2<|Jg R (Jc2 I2 R R<|hvC (a4.gInt bg) R)<|Ob h λdZ bh h=>Jc3 R a8 bh U31 Z37 ?_
 obtain⟨c6,dr,a6,cE⟩:=(a8.stp (T12 A t i f g d e s j C u H)).gSl bh
 refine Jg R (Jc2 I37 R R<|hvC cE R)<|Ob h λaC bi h=>Jc3 R a6 bi U37 Z2<|Jg R (Jc2 I2 R R<|hvC (a6.gInt bi) R)<|Jn 1 R<|Jt1<|Jd<|Jg3 [2,2,2,1,2] 3 R<|Ob h λcU cJ h=>Jr3 R C95 (qQ (κ:=Mk S) (Ji3 af.rdc) cJ) ?_
 rintro _ cT ⟨dk,rfl,b1⟩
 obtain⟨aj,U,dl⟩:=Ji b1 10 R
 refine Tv<|Jb 1 R<|Jq<|Je3 R<|Ob h λP h cy=>Jo3 [2,3,4,6,9,10,11,12] (λE L w'=>∃κ' ae ad,L=(8,.slice ae P.1.length ad)::(15,vi P.2)::E/\Stp [6,12,13] aj cT κ' w'/\Oc (Ep.own E6 2) 37 κ' w' 6 ae ad P.1) ?_ ?_
 revert h
 cases dh:decide (cU<0)
 refine JF λh=>Jy R<|Js ?_
 cases h
 exact Jw1 _ ⟨aj,N,M,R,Jj3,(af.stp U)⟩<|KM R
 refine JT λh=>Jx R<|Jg3 [2,2,2] 1 R<|Jn3 R U31 R R<|Jb 1 R<|Jh3 [2,2,2,1,1,1,2] 3 R<|Jd4 (κ:=aj) 12 [aB,aC] R Y37 bS R λbT bN dT bG aK cs=>Tv<|Jw3 (κ:=bG) (E:=(Ep.own E6 2)) 13 [12] (parts:=[(0,.tmp 68)]) (cells:=[.slice bT ([aB,aC]:List Int).length bN]) (xs:=([([aB,aC]:List Int)]:List (List Int))) R Y31 bZ R (Je4 ⟨_,_,R,cs⟩) λcW cZ ds bt aH b2=>Tv<|Ob h λd0 cK h=>Jy3 (κ:=bt) (E:=(Ep.own E6 2)) 6 [13] R Y31 bZ R (af.stp<|T3 U aK aH) b2.src (dG R) cK R λbR bJ dt bu bH b3=>Tv<|Jc 1 R ?_
 cases h
 exact Jw1 _ ⟨bu,bR,bJ,R,(T3 aK aH bH).wk R,b3⟩<|KM R
 rintro _ dS ⟨bF,ae,ad,rfl,aJ,cr⟩
 have h:=cy
 refine Jp<|Jh3 [2,2,1,1,2] 2 R<|Jd4 (κ:=bF) 12 [P.2] R Y37 bS R λc0 db du bv al b4=>Tv<|Ob h λcV cL h=>Jy3 (κ:=bv) (E:=E6) 9 [] R Y37 bS R (a1.stp<|T5 u H U aJ al) (Sl.srcP (bY _) b4.rdc) bU cL R λbV bL dv bw aI b5=>Tv<|Jc 1 R<|Jz<|Jp<|Jf3 R ?_
 have cI:IntKind.wrap .i64 (n+1)=n+1:=wr1 cA (Jm2 D) cz
 rw[cI]
 have D:=Jm2 D
 cases h
 exact Jz1 λa ha=>⟨k,_,Ja3 _,⟨bw,n+1,(P.1,cV),ae,ad,bV,bL,R,(T7 C u H U aJ al aI).wk R,(cr.stp<|al.tr aI),b5,by omega,by omega,aA⟩,(ha.mm R)⟩
 rintro _ dN ⟨ai,m,ac,Y,X,W,rfl,G,cp,cq,rfl⟩
 have h:=yI cx
 refine Jp<|Jq<|Jg3 [2,2,2] 1 R<|Jn3 R U31 R R<|Jb 1 R ?_
 revert h
 cases de:decide (48<(m.1.length:Int))
 refine JF λh=>Jy R<|Js<|Jp<|Ja [2,1,2,1,1,2,1] R<|Jd3 R U71 R Z31 ?_
 have aV:=a0.stp (j.tr G)
 refine Jb3 R I31 (aV.ld 0 R R)<|Jn 1 R<|Jw3 (κ:=ai) (E:=(Ep.own E6 2)) 10 [9] (parts:=[(0,.tmp 81)]) (cells:=[.slice X m.2.length W]) (xs:=([m.2]:List (List Int))) R Y31 bZ R (Je4 ⟨_,_,R,cq⟩) λcX c1 dx bx T b7=>Tv<|Ob h λaD cM h=>Jy3 (κ:=bx) (E:=(Ep.own E6 2)) 8 [10] R Y31 bZ R (aZ.stp<|T3 j G T) b7.src (dG R) cM R λaw ar dz aE am b8=>Tv<|Jd3 R U71 R Z31<|Ju3 (κ:=aE) 7 (off:=0) (vc:=[.slice aw aD.length ar]) (cs':=[.slice aw aD.length ar,.slice none 0 0]) R Z31 R (aV.stp<|T.tr am) R λdA an b9=>Tv<|Jo<|Jz<|Jp<|Jf3 R ?_
 cases h
 exact Jz1 λa ha=>⟨k,_,Ja3 _,⟨aE,(m.1,((IntKind.i64.wrap<|c.2.1+1):Int),aD),ac,Y,aw,ar,R,(T6 s j G T am an).wk R,(cp.stp<|T3 T am an),(b8.stp an),b9,az⟩,(ha.mm R)⟩
 refine JT λh=>Jx R<|Je [2,1,2] R<|Jf R (Ji4 [.slice none 0 0,.slice none 0 0] R)<|Jh4 (κ:=ai) 4 R Z71 R (aU.stp<|T7 f g d e s j G) R λdw bI b6=>Tv<|Jb 1 R<|Ju<|Jw<|Ja1<|Jw<|Jw ?_
 cases h
 obtain rfl:=Option.some.inj az
 have h:=yL ba
 refine Ja1<|Jq2<|Jw<|Ja2 (l:=[.cell 6 71,.tmp 7]) V186 (cd R b6 I71 Z71 R<|Jp2 R R) R ?_
 cases h
 exact⟨ai,none,0,none,0,R,(a9.stp<|T11 A t i f g d e s j G bI),Ow.nil,Ow.nil⟩
 rintro _ dK ⟨aF,x,aq,au,K,I,rfl,B,cl,cm,cn,rfl⟩
 have h:=yI ba
 refine Jp<|Jq<|Js1 (κ:=aF) [2,3] none [(0,2),(2,2),(4,2),(6,2),(1,0),(5,0),(3,1),(7,1),(8,1),(9,2),(10,1)] [] (by kernel_rfl) (by kernel_rfl) λdB o=>Jd3 R U71 R Z69<|Jn 1 R<|Jd3 R U71 R Z69<|Jn 1 R<|Jg R (Jc2 I69 R R<|hvC ((aX.stp<|T8 t i f g d e B o).ld 1 R R) R)<|Jg R (Jc2 I69 R R<|hvC ((a5.stp<|T7 i f g d e B o).ld 1 R R) R)<|Ob h λd1 cN h=>?_
 have aW:=cl.stp o
 refine Jr3 R C98 (nT (κ:=Mk aF) (Ji3<|ct.stp<|T9 A t i f g d e B o) (Ji3 aW.rdc) cN) ?_
 rintro _ dC ⟨di,dc,cY,rfl,bX,ca⟩
 obtain⟨bA,q,cQ⟩:=Ji bX 9 R
 refine⟨(q.cl R),Ob h λd2 cO h=>Jr3 R C98 (nT (κ:=Mk bA) (Ji3<|cv.stp<|T10 A t i f g d e B o q) (Ji3 (aW.stp q).rdc) cO) ?_⟩
 rintro _ dD ⟨dj,c2,da,rfl,b0,ce⟩
 obtain⟨bB,y,cR⟩:=Ji b0 12 R
 have ak:=(q.tr y)
 refine⟨(ak.cl R),Ob h λbr cP h=>Jm1 (κ:=bB) (E:=Pair.ep127) 11 [14] R R R R R R R R R Y69 dg R R R R ((ca.mx Pair.no127 cQ R (R:9+2=11)).stp y) (ce.mx Pair.no127 cR R (R:12+2=14)).src (dG R) cP R λav ap dE ag z cf=>⟨((ak.tr z).cl R),Jd3 R U71 R Z69<|Ju3 (κ:=ag) 7 (off:=1) (vc:=[.slice av br.length ap]) (cs':=[.slice K x.2.2.length I,.slice av br.length ap]) R Z69 R (cn.stp<|T4 o q y z) R λdH F cg=>⟨((T3 ak z F).cl R),Jt1<|Jd<|Je [1,1,2] R<|Jb4 tv R (Jc4 (haE cg.cells) I71 Z71 R)<|Jh4 (κ:=ag) 4 R Z71 R (aU.stp<|T10 f g d e B o q y z F) R λdI ao ch=>Tv<|Jb 1 R<|Ju<|Ja2 (l:=[.cell 6 71,.tmp 7]) V186 (cd R ch I71 Z71 R<|Jp2 R R) R ?_⟩⟩⟩
 cases h
 exact⟨(λb=>ren [(8,2),(11,3)]<|ag b),K,I,av,ap,R,((a9.stp<|T14 A t i f g d e B o q y z F ao).map (ren [(8,2),(11,3)]) R R),((cm.stp<|T6 o q y z F ao).map (ren [(8,2),(11,3)]) R R),((cf.stp<|F.tr ao).map (ren [(8,2),(11,3)]) R R)⟩
theorem nP {p0:Sig}{p1:Int}{p2:Int}  {r:Int}(h:jK p0 p1 p2=some r):Ret Tryz.prog 94 [.agg #[vi p0.In,vi p0.Out],vi p1,vi p2] w (Pvi κ w r):=by
 unfold jK at h
 refine Jk3 κ F94 R N94 R λj=>Je [1,2] R<|Js3 (κ:=κ) 2 R λS w1 o i c=>Tv<|Jb 1 R<|Jq<|Je [1,1,2,2,2,2,1,1,2,1,2,2,2,2,2,1,1,2,1,2,2] R<|Jb4 tv R (Jc4 (haE c.cells) I28 Z28 R)<|Ob h λO L h=>Jr3 R C58 (iK (κ:=Mk o) (p0:=p0) L) ?_
 rintro _ N ⟨ab,rfl,D⟩
 obtain⟨g,a,ac⟩:=Ji D 3 R
 refine Tv<|Jn 2 R<|Ob h λk h E=>Jf4 [1,2,3] 18 k g N [(4,2),(5,2),(6,1),(7,1),(8,2),(9,1),(10,2),(11,2)] [(12,2),(13,2),(14,2),(15,1),(16,1),(17,2),(18,1),(19,2),(20,2)] tv ?_ ?_
 revert h
 cases T:(!O)
 refine JF λh=>Jn 1 R<|Jd3 R U28 R Z2<|Jb3 R I2 ((c.stp a).ld 0 R R)<|Ob h λao G h=>Jr3 R C62 (dI (κ:=Mk g) G) ?_
 rintro _ ai ⟨W,rfl,y⟩
 obtain⟨n,s,ad⟩:=Ji y 5 R
 refine Tv<|Jn 1 R<|Ob h λap H h=>Jr3 R C59 (de (κ:=Mk n) H) ?_
 rintro _ aj ⟨X,rfl,z⟩
 obtain⟨P,t,ae⟩:=Ji z 7 R
 refine Tv<|Jn 2 R ?_
 cases h
 exact Jv1 _ tv ⟨R,_,(s.tr t).wk R⟩<|KM R
 refine JT λh=>Jn 2 R<|Jz3 R<|Jz3 R<|Jn 1 R<|Jz3 R<|Jn 2 R ?_
 cases h
 exact Jg4 tv R
 rintro _ M _ ⟨rfl,e,b⟩
 have h:=E
 refine Jn 1 R<|Ob h λm h F=>Jf4 [1,2,3] 27 m e M [(13,2),(14,2),(15,1),(16,1),(17,2),(18,1),(19,2),(20,2)] [] tv ?_ ?_
 revert h
 cases U:k
 refine JF λh=>Jn 1 R<|Jd3 R U28 R Z2<|Jb3 R I2 ((c.stp<|a.tr b).ld 1 R R)<|Ob h λaq I h=>Jr3 R C62 (dI (κ:=Mk e) I) ?_
 rintro _ ak ⟨Y,rfl,A⟩
 obtain⟨p,u,af⟩:=Ji A 5 R
 refine Tv<|Jn 1 R<|Ob h λar J h=>Jr3 R C59 (de (κ:=Mk p) J) ?_
 rintro _ al ⟨Z,rfl,B⟩
 obtain⟨Q,v,ag⟩:=Ji B 7 R
 refine Tv<|Jn 2 R ?_
 cases h
 exact Jv1 _ tv ⟨R,_,(u.tr v).wk R⟩<|KM R
 refine JT λh=>Jn 2 R<|Jz3 R<|Jz3 R<|Jn 1 R<|Jz3 R<|Jn 2 R ?_
 cases h
 exact Jg4 tv R
 rintro _ am _ ⟨rfl,f,d⟩
 have h:=F
 refine Jd ?_
 revert h
 cases V:m
 refine JF λh=>Jy R<|Js<|Jp<|Jg3 [2,2,1,1,2,2,2,2] 1 R<|Jd3 R U28 R Z2<|Jb3 R I2 ((c.stp<|T3 a b d).ld 0 R R)<|Ob h λau K h=>Jr3 R C62 (dI (κ:=Mk f) K) ?_
 rintro _ an ⟨aa,rfl,C⟩
 obtain⟨q,x,ah⟩:=Ji C 5 R
 refine Tv<|Jb 4 R<|Ju<|Ja2 (l:=[.tmp 6]) V94 (Jp2 R R) R ?_
 cases h
 exact⟨q,R,(j.stp<|T5 i a b d x)⟩
 refine JT λh=>Jx R<|Je3 R<|Ju<|Jw<|Ja2 (l:=[.tmp 6]) V94 (Jp2 R R) R ?_
 cases h
 exact⟨f,R,(j.stp<|T4 i a b d)⟩
theorem nj {a0 a4 a3 ba a6 aZ a7 a5 aY a8}{p0:l7Game}{a1 bL}{p1:(List Bool)}{p2:Int}{aX bM}{p3:(List Bool)}(av:Rd (Rp.int .i64) κ w 0 a0 a4 p0.owner) (bf:Rd (Rp.int .i64) κ w 0 a3 ba p0.prio) (bg:Rd (Rp.sl (Rp.int .i64)) κ w 0 a6 aZ p0.next) (aI:Rd (Rp.sl (Rp.int .i64)) κ w 0 a7 a5 p0.prev) (bh:Rd (Rp.int .i64) κ w 0 aY a8 p0.pick) (Y:Rd Rp.bool κ w 0 a1 bL p1) (bi:Rd Rp.bool κ w 0 aX bM p3){r:(List Bool)}(h:i9 p0 p1 p2 p3=some r):Ret Tryz.prog 272 [.agg #[.slice a0 p0.owner.length a4,.slice a3 p0.prio.length ba,.slice a6 p0.next.length aZ,.slice a7 p0.prev.length a5,.slice aY p0.pick.length a8],.slice a1 p1.length bL,vi p2,.slice aX p3.length bM] w (Pvs Ep.bool 4 κ w r):=by
 unfold i9 at h
 refine Jk3 κ F272 R N272 R λcM=>Je [1,2] R<|Js3 (κ:=κ) 2 R λdQ w1 b0 x be=>Tv<|Jb 1 R<|Jg3 [2,2,1,2] 1 R<|Jn3 R U178 R R<|Ob h λo dk h=>Jl1 (κ:=b0) (E:=Ep.bool) (z:=(false:Bool)) 3 R R R R R R R Y178 fQ R R R R R (λ_ _ _=>R) (Ju2 dk) λt u em b5 p cI=>Tv<|Jb 1 R<|Jg3 [2,2,1,2] 1 R<|Jn3 R U178 R R<|Ob h λq dl h=>Jl1 (κ:=b5) (E:=E6) (z:=(0:Int)) 4 R R R R R R R Y37 bS R R R R R (λ_ _ _=>R) (Ju2 dl) λC B et bR i cp=>Tv<|Jb 1 R<|Je [1,2] R<|Jx3 (κ:=bR) (E:=E6) 5 R Y37 bS R λci cl bO ay e ct=>Tv<|Jb 1 R<|Jq<|Je3 R ?_
 have cX:(p1.length:Int)<=9223372036854775807:=Y.len_le
 refine Ob h λbJ de cR=>?_
 clear h
 refine Jo3 [1,2,4,9,10] (λE L w'=>∃κ',∃m:(List Int)×(List Bool)×(List Int),∃af ag,L=(11,.slice af m.1.length ag)::E/\Stp [3,4,5] ay bO κ' w'/\Oc E6 2 κ' w' 5 af ag m.1/\Oc Ep.bool 4 κ' w' 3 t u m.2.1/\o.length=m.2.1.length/\Oc E6 2 κ' w' 4 C B m.2.2/\q.length=m.2.2.length/\bJ=cb m) ?_ ?_
 refine Jv<|Jp3 [1,2,3,4,9,10] (λk E L w'=>∃κ' n,∃g:(List Int)×(List Bool)×(List Int),∃X U,L=(11,.slice X g.1.length U)::(12,vi n)::E/\Stp [3,4,5] ay bO κ' w'/\Oc E6 2 κ' w' 5 X U g.1/\Oc Ep.bool 4 κ' w' 3 t u g.2.1/\o.length=g.2.1.length/\Oc E6 2 κ' w' 4 C B g.2.2/\q.length=g.2.2.length/\0<=n/\Int.toNat ((p1.length:Int)-n)=k/\cntM (fl p0 p1 p3) k n g=some bJ) ⟨_,_,⟨ay,0,((([]:List Int):(List Int)),o,q),ci,cl,R,Jj3,ct,(cI.stp<|i.tr e),R,(cp.stp e),R,(by decide),(by simp),de⟩,(KM R)⟩ ?_
 rintro k _ dw ⟨ab,n,g,X,U,rfl,I,aH,ap,aw,aq,ax,cY,dU,h⟩
 rcases k with _ | k
 have aK:=h;obtain⟨dr,h⟩:=cw (cb (Sum.inl g):(List Bool)⊕(((List Int)×(List Bool)×(List Int))⊕((List Int)×(List Bool)×(List Int))))
 have N:decide (n<(p1.length:Int))=false:=Jo2 (by omega)
 refine Jq<|Jg3 [2,2,2,2] 2 R<|Jn3 R U178 R R<|Jb 1 R<|Jw2 R N<|Jc1<|Jt<|Jt ?_
 cases h
 have h:=aK
 refine Jb1 ?_
 cases h
 exact Jw1 _ ⟨ab,(g.1,g.2.1,g.2.2),X,U,R,I.wk R,aH,ap,aw,aq,ax,R⟩<|KM R
 obtain⟨dr,h,aK⟩:=BI h;unfold fl at h
 have N:decide (n<(p1.length:Int))=true:=Jn2 (by omega)
 refine Jq<|Jg3 [2,2,2,2] 2 R<|Jn3 R U178 R R<|Jb 1 R<|Jv2 R N<|Js<|Jp<|Jq<|Jv<|Jq<|Jg3 [2,2,2,1] 2 R<|Ob h λdA bq h=>Jc3 R Y bq U178 Z4 ?_
 have au:=Y.stp (T5 x p i e I)
 refine Jb3 R I4 (au.gBool bq)<|Jd<|Ob h λaL h cU=>Jo3 [1,2,3,4,9,10,11,12] (λE L w'=>∃κ',L=E/\Stp [4] ab dw κ' w'/\Oc E6 2 κ' w' 4 C B aL/\q.length=aL.length) ?_ ?_
 revert h
 cases d3:dA
 refine JF λh=>Jy R<|Js ?_
 cases h
 exact Jw1 _ ⟨ab,R,Jj3,aq,ax⟩<|KM R
 have S:=(T5 x p i e I)
 refine JT λh=>Jx R<|Jh3 [2,2,1,2,2,1,2,1] 2 R<|Jb4 tv R (Jc4 (haE (be.stp<|T4 p i e I).cells) I210 Z210 R)<|Jn 2 R<|Ob h λeB dm h=>Jr3 R C249 (qS (κ:=Mk ab) (p0:=p0) (Ji3<|av.stp S) (Ji3<|bf.stp S) (Ji3<|bg.stp S) (Ji3<|aI.stp S) (Ji3<|bh.stp S) (Ji3 au) dm) ?_
 rintro _ en ⟨d7,rfl,cn⟩
 obtain⟨b4,aT,d9⟩:=Ji cn 6 R
 refine Tv<|Ob h λeC dn h=>Jf R (Jf2 aq.rdc dn U37 Z2 R R ax R)<|Ob h λdG bA h=>Jk1 (κ:=b4) (E:=E6) 4 [] R R R R R R R R Z2 R R R R (aq.stp aT) bA λeo b6 cf cF=>Tv<|?_
 have c9:q.length=dG.length:=ax.trans (Jt2 bA).2.2.2.symm
 refine Jo ?_
 cases h
 exact Jw1 _ ⟨b6,R,(aT.tr cf).wk R,cF,c9⟩<|KM R
 rintro _ dx ⟨b3,rfl,A,cE,c8⟩
 have h:=cU
 refine Jp<|Jg3 [2,2,2,1,2,2,2,2,1,2] 2 R<|Ob h λdB br h=>Jc3 R au br U178 Z4<|Jb3 R I4 ((au.stp A).gBool br)<|Jn 1 R<|Ob h λbG h cV=>Jf4 [1,2,3,4,9,10,11,12] 50 bG b3 dx [(5,2),(6,2),(7,2),(8,1),(9,2)] [] tv ?_ ?_
 revert h
 cases d4:dB
 refine JF λh=>Jn 3 R<|Jz3 R<|Jn 1 R ?_
 cases h
 exact Jg4 tv R
 refine JT λh=>Jn 2 R<|Ob h λeD bs h=>Jc3 R bi bs U178 Z4<|Jb3 R I4 ((bi.stp<|T6 x p i e I A).gBool bs)<|Jn 1 R ?_
 cases h
 exact Jg4 tv R
 rintro _ dy _ ⟨rfl,aB,J⟩
 have h:=cV
 refine Jd<|Ob h λQ h cW=>Jo3 [1,2,3,4,9,10,12] (λE L w'=>∃κ' aj ai,L=(11,.slice aj Q.1.length ai)::E/\Stp [3,5] aB dy κ' w'/\Oc E6 2 κ' w' 5 aj ai Q.1/\Oc Ep.bool 4 κ' w' 3 t u Q.2/\o.length=Q.2.length) ?_ ?_
 revert h
 cases d5:bG
 refine JF λh=>Jy R<|Js ?_
 cases h
 exact Jw1 _ ⟨aB,X,U,R,Jj3,(aH.stp<|A.tr J),(ap.stp<|A.tr J),aw⟩<|KM R
 refine JT λh=>Jx R<|Jg3 [2,2,2,1] 2 R<|Ob h λeE dp h=>Jf R (Jf2 ap.rdc dp U178 Z4 R R aw R)<|Ob h λdH bB h=>Jk1 (κ:=aB) (E:=Ep.bool) 3 [] R R R R R R R R Z4 R R R R (ap.stp<|A.tr J) bB λer b8 aV cJ=>Tv<|?_
 have db:o.length=dH.length:=aw.trans (Jt2 bB).2.2.2.symm
 refine Jd<|Jh3 [2,2,1,1,2] 2 R<|Jd4 (κ:=b8) 6 [n] R Y37 bS R λdM dL es b9 aE cK=>Tv<|Ob h λeF dq h=>Jy3 (κ:=b9) (E:=E6) 5 [] R Y37 bS R (aH.stp<|T4 A J aV aE) (Sl.srcP (bY _) cK.rdc) bU dq R λck cg eu ca aW cL=>Tv<|Jc 1 R ?_
 cases h
 exact Jw1 _ ⟨ca,ck,cg,R,(T3 aV aE aW).wk R,cL,(cJ.stp<|aE.tr aW),db⟩<|KM R
 rintro _ eq ⟨b7,aj,ai,rfl,aU,cG,cH,da⟩
 have h:=cW
 refine Jz<|Jp<|Jf3 R ?_
 have df:IntKind.wrap .i64 (n+1)=n+1:=wr1 cY (Jm2 N) cX
 rw[df]
 have N:=Jm2 N
 cases h
 exact Jz1 λa ha=>⟨k,_,Ja3 _,⟨b7,n+1,(Q.1,Q.2,aL),aj,ai,R,(T4 I A J aU).wk R,cG,cH,da,(cE.stp<|J.tr aU),c8,by omega,by omega,aK⟩,(ha.mm R)⟩
 rintro _ bP ⟨aA,m,af,ag,rfl,H,cB,cC,c6,cD,c7,rfl⟩
 have h:=yI cR
 refine Jp<|Jq<|Je3 R<|Ob h λbK dc cN=>?_
 clear h
 refine Jo3 [9] (λE L w'=>∃κ',∃F:(List Int)×Int×(List Bool)×(List Int),∃a2 a9,L=E/\Stp [3,4,5] aA bP κ' w'/\Oc E6 2 κ' w' 5 a2 a9 F.1/\Oc Ep.bool 4 κ' w' 3 t u F.2.2.1/\o.length=F.2.2.1.length/\Oc E6 2 κ' w' 4 C B F.2.2.2/\q.length=F.2.2.2.length/\bK=cb F) ?_ ?_
 refine Jv<|Jp3 [1,2,4,9,10] (λk E L w'=>∃κ',∃c:(List Int)×Int×(List Bool)×(List Int),∃W V,L=(11,.slice W c.1.length V)::(13,vi c.2.1)::E/\Stp [3,4,5] aA bP κ' w'/\Oc E6 2 κ' w' 5 W V c.1/\Oc Ep.bool 4 κ' w' 3 t u c.2.2.1/\o.length=c.2.2.1.length/\Oc E6 2 κ' w' 4 C B c.2.2.2/\q.length=c.2.2.2.length/\cu (gP p0 p1 p2) k c=some bK) ⟨_,_,⟨aA,(m.1,(0:Int),m.2.1,m.2.2),af,ag,R,Jj3,cB,cC,c6,cD,c7,dc⟩,(KM R)⟩ ?_
 rintro k _ bN ⟨aa,c,W,V,rfl,y,ak,bb,bk,bc,bl,h⟩
 rcases k with _ | k
 cases h
 obtain⟨ea,h,bj⟩:=BI h;unfold gP at h
 refine Jq<|Jg3 [2,2,2,2] 2 R<|Jn3 R U37 R R<|Jb 1 R ?_
 revert h
 cases dW:decide (c.2.1<(c.1.length:Int))
 refine JF λh=>Jy R<|Jc1<|Jt<|Jt ?_
 cases h
 have h:=bj
 refine Jb1 ?_
 cases h
 exact Jw1 _ ⟨aa,(c.1,c.2.1,c.2.2.1,c.2.2.2),W,V,R,y.wk R,ak,bb,bk,bc,bl,R⟩<|KM R
 refine JT λh=>Jx R<|Js<|Jp<|Jq<|Jv<|Jg3 [2,2,2,1,2] 2 R<|Ob h λdC bt h=>Jc3 R ak.rdc bt U37 Z2<|Jb3 R I2 (ak.rdc.gInt bt)<|Jb 1 R<|Je3 R<|Ob h λbI dd cO=>?_
 clear h
 refine Jo3 [1,2,4,9,10,13] (λE L w'=>∃κ',∃j:(List Int)×Int×(List Bool)×(List Int),∃ae ah,L=(11,.slice ae j.1.length ah)::E/\Stp [3,4,5] aa bN κ' w'/\Oc E6 2 κ' w' 5 ae ah j.1/\Oc Ep.bool 4 κ' w' 3 t u j.2.2.1/\o.length=j.2.2.1.length/\Oc E6 2 κ' w' 4 C B j.2.2.2/\q.length=j.2.2.2.length/\bI=cb j) ?_ ?_
 refine Jv<|Jp3 [1,2,4,9,10,13,14] (λk E L w'=>∃κ',∃d:(List Int)×Int×(List Bool)×(List Int),∃M K,L=(11,.slice M d.1.length K)::(15,vi d.2.1)::E/\Stp [3,4,5] aa bN κ' w'/\Oc E6 2 κ' w' 5 M K d.1/\Oc Ep.bool 4 κ' w' 3 t u d.2.2.1/\o.length=d.2.2.1.length/\Oc E6 2 κ' w' 4 C B d.2.2.2/\q.length=d.2.2.2.length/\cu (ep p0 p1 p2 dC) k d=some bI) ⟨_,_,⟨aa,(c.1,(0:Int),c.2.2.1,c.2.2.2),W,V,R,Jj3,ak,bb,bk,bc,bl,dd⟩,(KM R)⟩ ?_
 rintro k _ ds ⟨aM,d,M,K,rfl,v,al,D,O,am,Z,h⟩
 rcases k with _ | k
 cases h
 obtain⟨eb,h,aJ⟩:=BI h;unfold ep at h
 refine Jq<|Jg3 [2,2,1,2,2,1,2,2] 1 R<|Jd3 R U210 R Z31 ?_
 have an:=be.stp (T6 p i e H y v)
 refine Jb3 R I31 (an.ld 3 R R)<|Jn 1 R<|Ob h λdD bu h=>Jc3 R aI bu U31 Z37 ?_
 have ao:=aI.stp (T7 x p i e H y v)
 obtain⟨dO,ec,dT,cZ⟩:=ao.gSl bu
 refine Jb3 R I37 cZ<|Jn3 R U37 R R<|Jb 1 R ?_
 revert h
 cases dX:decide (d.2.1<(dD.length:Int))
 refine JF λh=>Jy R<|Jc1<|Jt<|Jt ?_
 cases h
 have h:=aJ
 refine Jb1 ?_
 cases h
 exact Jw1 _ ⟨aM,(d.1,d.2.1,d.2.2.1,d.2.2.2),M,K,R,v.wk R,al,D,O,am,Z,R⟩<|KM R
 refine JT λh=>Jx R<|Js<|Jp<|Jq<|Jv<|Je [2,1,2,2,1,2,2,1,2] R<|Jd3 R U210 R Z31<|Jb3 R I31 (an.ld 3 R R)<|Jn 1 R<|Ob h λeG bv h=>Jc3 R ao bv U31 Z37 ?_
 obtain⟨dP,ed,bd,c0⟩:=ao.gSl bv
 refine Jb3 R I37 c0<|Jn 1 R<|Ob h λdE bw h=>Jc3 R bd bw U37 Z2<|Jb3 R I2 (bd.gInt bw)<|Jb 1 R<|Jq<|Jg3 [2,2,2,1,2,2,2,2,2,1,2,2,1,2,2,1,2,2] 2 R<|Ob h λdF bx h=>Jc3 R Y bx U178 Z4<|Jb3 R I4 ((Y.stp<|T7 x p i e H y v).gBool bx)<|Jn 2 R<|Ob h λbH h cP=>Jf4 [1,2,4,9,10,11,13,14,15,16] 96 bH aM ds [(6,2),(7,2),(8,2),(9,1),(10,2)] [(11,2),(12,1),(13,2),(14,2),(15,1),(16,2),(17,2)] tv ?_ ?_
 revert h
 cases dY:(!dF)
 refine JF λh=>Jn 2 R<|Ob h λeH bz h=>Jf R (Jf2 D.rdc bz U178 Z4 R R O R)<|Jb3 R I4 (D.rdc.gBool bz)<|Jn 1 R ?_
 cases h
 exact Jg4 tv R
 refine JT λh=>Jn 3 R<|Jz3 R<|Jn 1 R ?_
 cases h
 exact Jg4 tv R
 rintro _ dt _ ⟨rfl,aN,f⟩
 have h:=cP
 refine Jn 1 R<|Ob h λbE h cQ=>Jf4 [1,2,4,9,10,11,13,14,15,16] 103 bE aN dt [(12,1),(13,2),(14,2),(15,1),(16,2),(17,2)] [] tv ?_ ?_
 revert h
 cases dZ:bH
 have ac:=(T8 x p i e H y v f)
 refine JF λh=>Jb4 tv R (Jc4 (haE (an.stp f).cells) I210 Z210 R)<|Jn 2 R<|Ob h λev dg h=>Jr3 R C269 (pp (κ:=Mk aN) (p0:=p0) (Ji3<|av.stp ac) (Ji3<|bf.stp ac) (Ji3<|bg.stp ac) (Ji3<|ao.stp f) (Ji3<|bh.stp ac) dg) ?_
 rintro _ eg ⟨d6,rfl,cm⟩
 obtain⟨dJ,ce,d8⟩:=Ji cm 6 R
 refine Tv<|Jn 2 R ?_
 cases h
 exact Jv1 _ tv ⟨R,_,ce.wk R⟩<|KM R
 refine JT λh=>Jz3 R<|Jn 2 R<|Jz3 R<|Jn 2 R ?_
 cases h
 exact Jg4 tv R
 rintro _ eh _ ⟨rfl,aO,s⟩
 have h:=cQ
 refine Jd ?_
 revert h
 cases d0:bE
 refine JF λh=>Jy R<|Js<|Jp<|Jg3 [2,2,2,1,2,2,1] 2 R<|Ob h λew bn h=>Jf R (Jf2 am.rdc bn U37 Z2 R R Z R) ?_
 have aF:=am.stp (f.tr s)
 refine Jb3 R I2 (aF.rdc.gInt bn)<|Jn 1 R<|Ob h λex dh h=>Jf R (Jf2 aF.rdc dh U37 Z2 R R Z R)<|Ob h λbQ bC h=>Jk1 (κ:=aO) (E:=E6) 4 [] R R R R R R R R Z2 R R R R aF bC λdu bW G aG=>Tv<|?_
 have bm:q.length=bQ.length:=Z.trans (Jt2 bC).2.2.2.symm
 refine Jd<|Je [2,1,2,2,1,2,2,2,2,2,2,1,2,2] R<|Jd3 R U210 R Z37<|Jb3 R I37 ((an.stp<|T3 f s G).ld 0 R R)<|Jn 1 R<|Ob h λdz bo h=>Jc3 R av bo U37 Z2<|Jb3 R I2 ((av.stp<|T10 x p i e H y v f s G).gInt bo)<|Jn 3 R<|Ob h λbF h cS=>Jf4 [1,2,4,9,10,11,13,14,15,16] 123 bF bW du [(8,2),(9,2),(10,2),(11,1),(12,2),(13,2)] [] tv ?_ ?_
 revert h
 cases d1:(dz==p2)
 refine JF λh=>Jn 2 R<|Ob h λey bp h=>Jf R (Jf2 aG.rdc bp U37 Z2 R R bm R)<|Jb3 R I2 (aG.rdc.gInt bp)<|Jn 2 R ?_
 cases h
 exact Jg4 tv R
 refine JT λh=>Jn 3 R<|Jz3 R<|Jn 2 R ?_
 cases h
 exact Jg4 tv R
 rintro _ dv _ ⟨rfl,az,T⟩
 have h:=cS
 refine Jd<|Ob h λP h cT=>Jo3 [1,2,4,9,10,13,14,15] (λE L w'=>∃κ' ar ad,L=(11,.slice ar P.1.length ad)::E/\Stp [3,5] az dv κ' w'/\Oc E6 2 κ' w' 5 ar ad P.1/\Oc Ep.bool 4 κ' w' 3 t u P.2/\o.length=P.2.length) ?_ ?_
 revert h
 cases d2:bF
 refine JF λh=>Jy R<|Js ?_
 cases h
 have aP:=(T4 f s G T)
 exact Jw1 _ ⟨az,M,K,R,Jj3,(al.stp aP),(D.stp aP),O⟩<|KM R
 refine JT λh=>Jx R<|Jg3 [2,2,2,1] 2 R<|Ob h λez di h=>Jf R (Jf2 D.rdc di U178 Z4 R R O R)<|Ob h λdI bD h=>Jk1 (κ:=az) (E:=Ep.bool) 3 [] R R R R R R R R Z4 R R R R (D.stp<|T4 f s G T) bD λej bZ aR cy=>Tv<|?_
 have c5:o.length=dI.length:=O.trans (Jt2 bD).2.2.2.symm
 refine Jd<|Jh3 [2,2,1,1,2] 2 R<|Jd4 (κ:=bZ) 6 [dE] R Y37 bS R λdK dN ek b1 aD cz=>Tv<|Ob h λeA dj h=>Jy3 (κ:=b1) (E:=E6) 5 [] R Y37 bS R (al.stp<|T6 f s G T aR aD) (Sl.srcP (bY _) cz.rdc) bU dj R λch cj el b2 aS cA=>Tv<|Jc 1 R ?_
 cases h
 exact Jw1 _ ⟨b2,ch,cj,R,(T3 aR aD aS).wk R,cA,(cy.stp<|aD.tr aS),c5⟩<|KM R
 rintro _ ei ⟨bX,ar,ad,rfl,aQ,cv,cx,c4⟩
 have h:=cT
 refine Jz<|Jp<|Jf3 R ?_
 cases h
 exact Jz1 λa ha=>⟨k,_,Ja3 _,⟨bX,(P.1,((IntKind.i64.wrap<|d.2.1+1):Int),P.2,bQ),ar,ad,R,(T6 v f s G T aQ).wk R,cv,cx,c4,(aG.stp<|T.tr aQ),bm,aJ⟩,(ha.mm R)⟩
 refine JT λh=>Jx R<|Jc1<|Jt<|Jb1<|Jp<|Jf3 R ?_
 cases h
 have aC:=(f.tr s)
 exact Jz1 λa ha=>⟨k,_,Ja3 _,⟨aO,(d.1,((IntKind.i64.wrap<|d.2.1+1):Int),d.2.2.1,d.2.2.2),M,K,R,(T3 v f s).wk R,(al.stp aC),(D.stp aC),O,(am.stp aC),Z,aJ⟩,(ha.mm R)⟩
 rintro _ ef ⟨bV,j,ae,ah,rfl,cd,cq,cr,c2,cs,c3,rfl⟩
 have h:=yI cO
 refine Jz<|Jp<|Jf3 R ?_
 cases h
 exact Jz1 λa ha=>⟨k,_,Ja3 _,⟨bV,(j.1,((IntKind.i64.wrap<|c.2.1+1):Int),j.2.2.1,j.2.2.2),ae,ah,R,(y.tr cd).wk R,cq,cr,c2,cs,c3,bj⟩,(ha.mm R)⟩
 rintro _ ee ⟨bT,F,a2,a9,rfl,cc,dR,co,c1,dS,dV,rfl⟩
 have h:=yI cN
 refine Jp<|Je3 R<|Ju<|Ja2 (l:=[.tmp 8]) V272 (Jp2 R R) R ?_
 cases h
 exact⟨(λb=>ren [(3,2)]<|bT b),t,u,(by simp only[c1]),((cM.stp<|T6 x p i e H cc).map (ren [(3,2)]) R R),(co.map (ren [(3,2)]) R R)⟩
theorem eQ {a c}{p0:(List Int)}{c1_0:Int}{b}(g:Rd (Rp.int .i64) κ w 0 a c p0) (i:Bc κ w 0 b 2 [vi c1_0]){r:Bool}(h:cD p0 c1_0=some r):Ret Tryz.prog 216 [.slice a p0.length c,.func (.func 217) #[] #[.pointer (some ⟨b,0,none⟩)]] w (Pvb κ w r):=by
 unfold cD at h
 refine Jk3 κ F216 R N216 R λj=>Je3 R<|Jg3 [2,2,1,2,2] 2 R<|Ob h λo k h=>Jr3 R C47 (ft (κ:=Mk κ) (Ji3 g) (i.map (mp [] 0) R R) k) ?_
 rintro _ w1 ⟨m,rfl,f⟩
 obtain⟨d,e,n⟩:=Ji f 2 R
 refine Tv<|Jb 2 R<|Ju<|Ja2 (l:=[.tmp 4]) V216 (Jp2 R R) R ?_
 cases h
 exact⟨d,R,(j.stp e)⟩
theorem rY {p0:Sig}{cI cH cC cF}{p1:Machine}{cE ay cG cD}{p2:Word}(fn:Rd (Rp.sl (Rp.int .i64)) κ w 0 cI cH p1.Next) (fo:Rd (Rp.sl (Rp.int .i64)) κ w 0 cC cF p1.Out) (fp:Rd (Rp.int .i64) κ w 0 cE ay p2.Stem) (fq:Rd (Rp.int .i64) κ w 0 cG cD p2.Loop){r:Word×Bool}(h:lQ p0 p1 p2=some r):Ret Tryz.prog 156 [.agg #[vi p0.In,vi p0.Out],.agg #[.slice cI p1.Next.length cH,.slice cC p1.Out.length cF],.agg #[.slice cE p2.Stem.length ay,.slice cG p2.Loop.length cD]] w (λv w'=>∃(κ':Col) (c7:Option Addr) (c9:Nat) (c8:Option Addr) (da:Nat),v= .tuple #[.agg #[.slice c7 r.1.Stem.length c9,.slice c8 r.1.Loop.length da],.bool r.2]/\Ent κ w κ' w'/\Oc E6 2 κ' w' 2 c7 c9 r.1.Stem/\Oc E6 2 κ' w' 3 c8 da r.1.Loop):=by
 unfold lQ at h
 refine Jk3 κ F156 R N156 R λfr=>Je [1,1,1,1,2] R<|Js3 (κ:=κ) 2 R λfH w1 dm aT eV=>Tv<|Js3 (κ:=dm) 3 R λfI hd dL aF fk=>Tv<|Js3 (κ:=dL) 4 R λfJ hh de Y d6=>Tv<|Jt3 (κ:=de) 5 R X39 R λfK fW dg T eb=>Tv<|Jb 1 R<|Je [1,1,1] R<|Jx3 (κ:=dg) (E:=E6) 6 R Y37 bS R λdW dY f4 dj I ej=>Tv<|Jt3 (κ:=dj) 7 R X37 R λcJ gd b6 F eq=>Tv<|Jv3 (κ:=b6) 7 (vc:=[.slice dW ([]:List Int).length dY]) R Z37 R eq R λgm G ex=>Tv<|Jd<|Je [1,1] R<|Jt3 (κ:=b6) 8 R X2 R λcK gs cf y eE=>Tv<|Jv3 (κ:=cf) 8 (vc:=[vi 0]) R Z2 R eE R λgB z eI=>Tv<|Jd<|Je [2,2] R<|Jf R (d8 (first:=[]) (captured:=[.tmp 8,.tmp 4,.tmp 9,.tmp 3]) R R R ⟨_,R⟩)<|Jb 1 R<|Jg3 [2,2,1,1] 1 R<|Jd3 R U39 R Z37 ?_
 have bP:=d6.stp (T6 T I F G y z)
 refine Jb3 R I37 (bP.ld 0 R R)<|Ob h λdc fv h=>?_
 have cS:=fn.stp (T9 aT aF Y T I F G y z)
 have cT:=fo.stp (T9 aT aF Y T I F G y z)
 have cU:=fk.stp (T7 Y T I F G y z)
 have cV:=eV.stp (T8 aF Y T I F G y z)
 refine WO.callV R R R R R R R R C212 (mW (κ:=λb=>mp [(6,2),(7,3),(8,4)] 0<|cf b) (c1:=p1) (c3:=p0) (Jl2 (fp.stp<|T9 aT aF Y T I F G y z) (mp [(6,2),(7,3),(8,4)] 0) R R) ((ej.stp<|T4 F G y z).map (mp [(6,2),(7,3),(8,4)] 0) R R) (Jl2 cS (mp [(6,2),(7,3),(8,4)] 0) R R) (Jl2 cT (mp [(6,2),(7,3),(8,4)] 0) R R) ((ex.stp<|y.tr z).map (mp [(6,2),(7,3),(8,4)] 0) R R) (cU.map (mp [(6,2),(7,3),(8,4)] 0) R R) (eI.map (mp [(6,2),(7,3),(8,4)] 0) R R) (cV.map (mp [(6,2),(7,3),(8,4)] 0) R R) fv) ?_
 rintro _ gY ⟨fP,dR,dX,rfl,d1,e6,e9,fc⟩
 obtain⟨dK,a3,bX⟩:=Ji d1 9 R
 refine Tv<|Jd<|Je [1,2] R<|Jx3 (κ:=dK) (E:=E6) 14 R Y37 bS R λdT dQ db bG V fg=>Tv<|Jb 1 R<|Jq<|Ob h λc6 fu ft=>?_
 clear h
 refine Jo3 [5,6,8,9] (λE L w'=>∃κ',∃ax:(List Int)×(List Int)×Int,∃bK bL bJ ar,L=(11,.slice bK ax.1.length bL)::E/\Stp [11,12,13,14,20,21,22] bG db κ' w'/\Oc E6 2 κ' w' 14 bK bL ax.1/\Oc E6 2 κ' w' 11 bJ ar ax.2.1/\Bc κ' w' 12 cJ 37 [.slice bJ ax.2.1.length ar]/\Bc κ' w' 13 cK 2 [vi ax.2.2]/\c6=cb ax) ?_ ?_
 refine Jv<|Jp3 [5,6,8,9,10] (λk E L w'=>∃κ',∃D:(List Int)×(List Int)×Int,∃bD bv bt bA,L=(11,.slice bD D.1.length bv)::E/\Stp [11,12,13,14,20,21,22] bG db κ' w'/\Oc E6 2 κ' w' 14 bD bv D.1/\Oc E6 2 κ' w' 11 bt bA D.2.1/\Bc κ' w' 12 cJ 37 [.slice bt D.2.1.length bA]/\Bc κ' w' 13 cK 2 [vi D.2.2]/\cu (ji p0 p1 p2) k D=some c6) ⟨_,_,⟨bG,((([]:List Int):(List Int)),dc.1,dc.2),dT,dQ,dR,dX,R,Jj3,fg,((e6.mx (cc _) bX R (R:9+2=11)).stp V),((e9.mx bX R (R:9+3=12)).stp V),((fc.mx bX R (R:9+4=13)).stp V),fu⟩,(KM R)⟩ ?_
 rintro k _ hf ⟨dM,D,bD,bv,bt,bA,rfl,bs,bT,cY,cZ,bV,h⟩
 rcases k with _ | k
 cases h
 obtain⟨fT,h,c2⟩:=BI h;unfold ji at h
 refine Jq<|Jg3 [2,1,1,2] 1 R<|Jb3 R I2 (bV.ld 0 R R)<|Ob h λfD fw h=>Jr3 R C89 (ch (κ:=Mk dM) (Ji3 bT.rdc) fw) ?_
 rintro _ hg ⟨fQ,rfl,d2⟩
 obtain⟨cy,u,fS⟩:=Ji d2 15 R
 refine Tv<|Jb 1 R ?_
 revert h
 cases fM:(!fD)
 refine JF λh=>Jy R<|Jc1<|Jt<|Jt ?_
 cases h
 have h:=c2
 refine Jb1 ?_
 cases h
 exact Jw1 _ ⟨cy,(D.1,D.2.1,D.2.2),bD,bv,bt,bA,R,(bs.tr u).wk R,(bT.stp u),(cY.stp u),(cZ.stp u),(bV.stp u),R⟩<|KM R
 refine JT λh=>Jx R<|Js<|Jp<|Jv<|Jg3 [2,1,1,1,2] 1 R ?_
 have c0:=bV.stp u
 have aH:=(T4 a3 V bs u)
 refine Jb3 R I2 (c0.ld 0 R R)<|Jd4 (κ:=cy) 17 [D.2.2] R Y37 bS R λfF fG hi dN A fl=>Tv<|Ob h λfE fx h=>Jy3 (κ:=dN) (E:=E6) 14 [] R Y37 bS R (bT.stp<|u.tr A) (Sl.srcP (bY _) fl.rdc) bU fx R λdP dV hj dO H fm=>Tv<|Jb 1 R<|Jh3 [2,2,1,1] 1 R<|Jd3 R U39 R Z37<|Jb3 R I37 ((bP.stp<|T3 aH A H).ld 1 R R)<|Ob h λdd fy h=>WO.callV R R R R R R R R C212 (mW (κ:=λb=>mp [(11,2),(12,3),(13,4)] 0<|dO b) (c1:=p1) (c3:=p0) (Jl2 (fq.stp<|T15 aT aF Y T I F G y z a3 V bs u A H) (mp [(11,2),(12,3),(13,4)] 0) R R) ((cY.stp<|T3 u A H).map (mp [(11,2),(12,3),(13,4)] 0) R R) (Jl2 (cS.stp<|T3 aH A H) (mp [(11,2),(12,3),(13,4)] 0) R R) (Jl2 (cT.stp<|T3 aH A H) (mp [(11,2),(12,3),(13,4)] 0) R R) ((cZ.stp<|T3 u A H).map (mp [(11,2),(12,3),(13,4)] 0) R R) ((cU.stp<|T3 aH A H).map (mp [(11,2),(12,3),(13,4)] 0) R R) ((c0.stp<|A.tr H).map (mp [(11,2),(12,3),(13,4)] 0) R R) ((cV.stp<|T3 aH A H).map (mp [(11,2),(12,3),(13,4)] 0) R R) fy) ?_
 rintro _ fU ⟨fN,dS,dU,rfl,dZ,d3,d4,d5⟩
 obtain⟨df,cA,bW⟩:=Ji dZ 18 R
 refine Tv<|Jo<|Jz ?_
 cases h
 exact Jz1 λa ha=>⟨k,_,Ja3 _,⟨(λb=>ren [(20,11),(21,12),(22,13)]<|df b),(fE,dd.1,dd.2),dP,dV,dS,dU,R,(Jy2 ((T5 bs u A H cA).wk R) [(20,11),(21,12),(22,13)] R),((fm.stp cA).map (ren [(20,11),(21,12),(22,13)]) R R),((d3.mx (cc _) bW R (R:18+2=20)).map (ren [(20,11),(21,12),(22,13)]) R R),((d4.mx bW R (R:18+3=21)).map (ren [(20,11),(21,12),(22,13)]) R R),((d5.mx bW R (R:18+4=22)).map (ren [(20,11),(21,12),(22,13)]) R R),c2⟩,(ha.mm R)⟩
 rintro _ he ⟨cx,ax,bK,bL,bJ,ar,rfl,bI,fh,cX,fi,fj,rfl⟩
 have h:=yI ft
 refine Jp<|Jq<|Js1 (κ:=cx) [4,13] none [(0,2),(3,2),(6,2),(1,0),(2,2),(4,0),(7,0),(8,2),(5,1),(9,2),(10,2),(11,2)] [] (by kernel_rfl) (by kernel_rfl) λfV Z=>Jd3 R U39 R Z37<|Jn 1 R<|Jd3 R U39 R Z37 ?_
 have cL:=bP.stp (T4 a3 V bI Z)
 refine Jg R (Jc2 I37 R R<|hvC (cL.ld 0 R R) R)<|Jn3 R U37 R R<|Jg R (Jc2 I2 R R<|hvC ((fj.stp Z).ld 0 R R) R)<|Jg R (Jc2 I37 R R<|hvC (cL.ld 1 R R) R)<|Jn3 R U37 R R<|Ob h λhk fz h=>Jr3 R C49 (jb (κ:=Mk cx) (Ji3 (fh.stp Z).rdc) fz) ?_
 rintro _ fB ⟨fO,rfl,d0⟩
 obtain⟨aG,aJ,fR⟩:=Ji d0 15 R
 refine⟨(aJ.cl R),Jn 3 R<|Jt1<|Jd<|Jq<|Ob h λhl c4 h=>Ob h λhm c5 h=>Ob h λj C h=>Ob h λm q h=>Jo3 [6] (λE L w'=>∃κ' g bx bz bw bu,L=(13,.pointer (some ⟨g,0,none⟩))::E/\Stp [17,18,19] aG fB κ' w'/\Oc E6 2 κ' w' 17 bx bz ((⟨j,m⟩:Word).Stem)/\Oc E6 2 κ' w' 18 bw bu ((⟨j,m⟩:Word).Loop)/\Bc κ' w' 19 g 39 [.slice bx ((⟨j,m⟩:Word).Stem).length bz,.slice bw ((⟨j,m⟩:Word).Loop).length bu]) ?_ ?_⟩
 refine WC.rxt (κ:=aG) [12] none (by kernel_rfl) λfY o=>Jq1 (fuel:=7) [(2,2),(7,2),(1,0),(3,2),(6,0),(8,2)] (by kernel_rfl) (by kernel_rfl) R<|Jn 2 R ?_
 have cM:=fi.stp (T3 Z aJ o)
 refine Jg R (Jc2 I37 R R<|hvC (cM.ld 0 R R) R)<|Jf R (kM (k1:= .i64) (k2:= .i64) U37 Z2 (.inl ⟨R,R⟩) (.inr ⟨_,R,R⟩) c4 cX.rdc.1 R R R) ?_
 have bM:=cX.stp (T3 Z aJ o)
 have B:=bM.rdc.sub c4
 refine Jg R (Jc2 I37 R R<|hvC (cM.ld 0 R R) R)<|Jf R (kM (k1:= .i64) (k2:= .i64) U37 Z2 (.inr ⟨_,R,R⟩) (.inl ⟨R,R⟩) c5 bM.rdc.1 R R R) ?_
 have p:=bM.rdc.sub c5
 refine Jp1<|WA.fork3 (fuel:=6) 0 5 11 (by kernel_rfl) R ?_ ?_ ?_
 refine Jx3 (κ:=aG) (E:=E6) 17 R Y37 bS R λbB bC fZ bF i a4=>⟨(i.cl R),Jp1<|WA.fork3 (fuel:=5) 4 5 11 (by kernel_rfl) R ?_ ?_ ?_⟩
 refine Jy3 (κ:=bF) (E:=E6) 17 [] R Y37 bS R a4 (Sl.srcP (bY _)<|B.stp i) bU C R λf e f0 b0 U bN=>⟨((i.tr U).cl R),Jp1<|WA.fork2 (fuel:=4) 5 11 (by kernel_rfl) R ?_ ?_⟩
 refine Jx3 (κ:=b0) (E:=E6) 18 R Y37 bS R λW X f1 b1 aa cN=>⟨((T3 i U aa).cl R),Jp1<|WA.fork2 (fuel:=3) 9 11 (by kernel_rfl) R ?_ ?_⟩
 have a7:=(T3 i U aa)
 exact Jy3 (κ:=b1) (E:=E6) 18 [] R Y37 bS R cN (Sl.srcP (bY _)<|p.stp a7) bU q R λc d f2 dh aK ec=>⟨((a7.tr aK).cl R),Jp1<|Jq1 (fuel:=0) [(10,2),(11,1),(12,1)] (by kernel_rfl) (by kernel_rfl) R<|Jf R (Ji4 [.slice f j.length e,.slice c m.length d] R)<|Jt3 (κ:=dh) 19 R X39 R λg f3 b2 aL ed=>⟨((T3 a7 aK aL).cl R),Jh4 (κ:=b2) 19 R Z39 R ed R λf5 bb ee=>⟨((T4 a7 aK aL bb).cl R),Jp1<|Jr1 [] (by kernel_rfl) (by kernel_rfl) R<|Jo<|Jw1 _ ⟨b2,g,f,e,c,d,R,(T7 o i U aa aK aL bb).wk R,(bN.stp<|T4 aa aK aL bb),(ec.stp<|aL.tr bb),ee⟩<|KM R⟩⟩⟩
 have a8:=(T3 i U aa)
 exact Jt3 (κ:=b1) 19 R X39 R λg f6 di ab ef=>⟨((a8.tr ab).cl R),Jp1<|Jq1 (fuel:=0) [(9,1),(10,2),(12,1)] (by kernel_rfl) (by kernel_rfl) R<|Jy3 (κ:=di) (E:=E6) 18 [] R Y37 bS R (cN.stp ab) (Sl.srcP (bY _)<|p.stp<|a8.tr ab) bU q R λc d f7 b3 aM eg=>⟨((T3 a8 ab aM).cl R),Jf R (Ji4 [.slice f j.length e,.slice c m.length d] R)<|Jh4 (κ:=b3) 19 R Z39 R (ef.stp aM) R λf8 bc eh=>⟨((T4 a8 ab aM bc).cl R),Jp1<|Jr1 [] (by kernel_rfl) (by kernel_rfl) R<|Jo<|Jw1 _ ⟨b3,g,f,e,c,d,R,(T7 o i U aa ab aM bc).wk R,(bN.stp<|T4 aa ab aM bc),(eg.stp bc),eh⟩<|KM R⟩⟩⟩
 have aI:=(i.tr U)
 exact Jt3 (κ:=b0) 18 R X39 R λg f9 dk ac ei=>⟨((aI.tr ac).cl R),Jp1<|Jq1 (fuel:=0) [(5,1),(9,1),(10,2),(12,1)] (by kernel_rfl) (by kernel_rfl) R<|Jx3 (κ:=dk) (E:=E6) 19 R Y37 bS R λW X ga dl ad ek=>⟨((T3 aI ac ad).cl R),Jy3 (κ:=dl) (E:=E6) 19 [] R Y37 bS R ek (Sl.srcP (bY _)<|p.stp<|T3 aI ac ad) bU q R λc d gb b4 aN el=>⟨((T4 aI ac ad aN).cl R),Jf R (Ji4 [.slice f j.length e,.slice c m.length d] R)<|Jh4 (κ:=b4) 18 R Z39 R (ei.stp<|ad.tr aN) R λgc bd em=>⟨((T5 aI ac ad aN bd).cl R),Jp1<|Jr1 [] (by kernel_rfl) (by kernel_rfl) R<|Jo<|Jw1 _ ⟨(λb=>ren [(19,18),(18,19)]<|b4 b),g,f,e,c,d,R,(Jy2 ((T7 o i U ac ad aN bd).wk R) [(19,18),(18,19)] R),((bN.stp<|T4 ac ad aN bd).map (ren [(19,18),(18,19)]) R R),((el.stp bd).map (ren [(19,18),(18,19)]) R R),(em.map (ren [(19,18),(18,19)]) R R)⟩<|KM R⟩⟩⟩⟩
 refine Jx3 (κ:=bF) (E:=E6) 18 R Y37 bS R λW X ge b5 x bO=>⟨((i.tr x).cl R),Jp1<|WA.fork2 (fuel:=4) 4 11 (by kernel_rfl) R ?_ ?_⟩
 refine Jy3 (κ:=b5) (E:=E6) 17 [] R Y37 bS R (a4.stp x) (Sl.srcP (bY _)<|B.stp<|i.tr x) bU C R λf e gf b7 ae cO=>⟨((T3 i x ae).cl R),Jp1<|WA.fork2 (fuel:=3) 9 11 (by kernel_rfl) R ?_ ?_⟩
 have a9:=(T3 i x ae)
 exact Jy3 (κ:=b7) (E:=E6) 18 [] R Y37 bS R (bO.stp ae) (Sl.srcP (bY _)<|p.stp a9) bU q R λc d gg dn aO en=>⟨((a9.tr aO).cl R),Jp1<|Jq1 (fuel:=0) [(10,2),(11,1),(12,1)] (by kernel_rfl) (by kernel_rfl) R<|Jf R (Ji4 [.slice f j.length e,.slice c m.length d] R)<|Jt3 (κ:=dn) 19 R X39 R λg gh b8 aP eo=>⟨((T3 a9 aO aP).cl R),Jh4 (κ:=b8) 19 R Z39 R eo R λgi be ep=>⟨((T4 a9 aO aP be).cl R),Jp1<|Jr1 [] (by kernel_rfl) (by kernel_rfl) R<|Jo<|Jw1 _ ⟨b8,g,f,e,c,d,R,(T7 o i x ae aO aP be).wk R,(cO.stp<|T3 aO aP be),(en.stp<|aP.tr be),ep⟩<|KM R⟩⟩⟩
 have ba:=(T3 i x ae)
 exact Jt3 (κ:=b7) 19 R X39 R λg gj dp af er=>⟨((ba.tr af).cl R),Jp1<|Jq1 (fuel:=0) [(9,1),(10,2),(12,1)] (by kernel_rfl) (by kernel_rfl) R<|Jy3 (κ:=dp) (E:=E6) 18 [] R Y37 bS R (bO.stp<|ae.tr af) (Sl.srcP (bY _)<|p.stp<|ba.tr af) bU q R λc d gk b9 aQ es=>⟨((T3 ba af aQ).cl R),Jf R (Ji4 [.slice f j.length e,.slice c m.length d] R)<|Jh4 (κ:=b9) 19 R Z39 R (er.stp aQ) R λgl bf et=>⟨((T4 ba af aQ bf).cl R),Jp1<|Jr1 [] (by kernel_rfl) (by kernel_rfl) R<|Jo<|Jw1 _ ⟨b9,g,f,e,c,d,R,(T7 o i x ae af aQ bf).wk R,(cO.stp<|T3 af aQ bf),(es.stp bf),et⟩<|KM R⟩⟩⟩
 have aC:=(i.tr x)
 exact Jt3 (κ:=b5) 19 R X39 R λg gn dq J eu=>⟨((aC.tr J).cl R),Jp1<|Jq1 (fuel:=0) [(4,1),(9,1),(10,2),(12,1)] (by kernel_rfl) (by kernel_rfl) R<|Jy3 (κ:=dq) (E:=E6) 17 [] R Y37 bS R (a4.stp<|x.tr J) (Sl.srcP (bY _)<|B.stp<|aC.tr J) bU C R λf e go dr ag ev=>⟨((T3 aC J ag).cl R),Jy3 (κ:=dr) (E:=E6) 18 [] R Y37 bS R (bO.stp<|J.tr ag) (Sl.srcP (bY _)<|p.stp<|T3 aC J ag) bU q R λc d gp ca aR ew=>⟨((T4 aC J ag aR).cl R),Jf R (Ji4 [.slice f j.length e,.slice c m.length d] R)<|Jh4 (κ:=ca) 19 R Z39 R (eu.stp<|ag.tr aR) R λgq bg ey=>⟨((T5 aC J ag aR bg).cl R),Jp1<|Jr1 [] (by kernel_rfl) (by kernel_rfl) R<|Jo<|Jw1 _ ⟨ca,g,f,e,c,d,R,(T7 o i x J ag aR bg).wk R,(ev.stp<|aR.tr bg),(ew.stp bg),ey⟩<|KM R⟩⟩⟩⟩
 refine Jt3 (κ:=bF) 18 R X39 R λg gr ce ah cP=>⟨((i.tr ah).cl R),Jp1<|WA.fork2 (fuel:=4) 4 5 (by kernel_rfl) R ?_ ?_⟩
 have aD:=(i.tr ah)
 exact Jy3 (κ:=ce) (E:=E6) 17 [] R Y37 bS R (a4.stp ah) (Sl.srcP (bY _)<|B.stp aD) bU C R λf e gt ds ai ez=>⟨((aD.tr ai).cl R),Jp1<|Jq1 (fuel:=0) [(5,1),(9,1),(10,2),(12,1)] (by kernel_rfl) (by kernel_rfl) R<|Jx3 (κ:=ds) (E:=E6) 19 R Y37 bS R λW X gu dt aj eA=>⟨((T3 aD ai aj).cl R),Jy3 (κ:=dt) (E:=E6) 19 [] R Y37 bS R eA (Sl.srcP (bY _)<|p.stp<|T3 aD ai aj) bU q R λc d gv cg aS eB=>⟨((T4 aD ai aj aS).cl R),Jf R (Ji4 [.slice f j.length e,.slice c m.length d] R)<|Jh4 (κ:=cg) 18 R Z39 R (cP.stp<|T3 ai aj aS) R λgw bh eC=>⟨((T5 aD ai aj aS bh).cl R),Jp1<|Jr1 [] (by kernel_rfl) (by kernel_rfl) R<|Jo<|Jw1 _ ⟨(λb=>ren [(19,18),(18,19)]<|cg b),g,f,e,c,d,R,(Jy2 ((T7 o i ah ai aj aS bh).wk R) [(19,18),(18,19)] R),((ez.stp<|T3 aj aS bh).map (ren [(19,18),(18,19)]) R R),((eB.stp bh).map (ren [(19,18),(18,19)]) R R),(eC.map (ren [(19,18),(18,19)]) R R)⟩<|KM R⟩⟩⟩⟩
 have aE:=(i.tr ah)
 exact Jx3 (κ:=ce) (E:=E6) 19 R Y37 bS R λW X gx du K eD=>⟨((aE.tr K).cl R),Jp1<|Jq1 (fuel:=0) [(4,1),(9,1),(10,2),(12,1)] (by kernel_rfl) (by kernel_rfl) R<|Jy3 (κ:=du) (E:=E6) 17 [] R Y37 bS R (a4.stp<|ah.tr K) (Sl.srcP (bY _)<|B.stp<|aE.tr K) bU C R λf e gy dv ak eF=>⟨((T3 aE K ak).cl R),Jy3 (κ:=dv) (E:=E6) 19 [] R Y37 bS R (eD.stp ak) (Sl.srcP (bY _)<|p.stp<|T3 aE K ak) bU q R λc d gz ci aU eG=>⟨((T4 aE K ak aU).cl R),Jf R (Ji4 [.slice f j.length e,.slice c m.length d] R)<|Jh4 (κ:=ci) 18 R Z39 R (cP.stp<|T3 K ak aU) R λgA bi eH=>⟨((T5 aE K ak aU bi).cl R),Jp1<|Jr1 [] (by kernel_rfl) (by kernel_rfl) R<|Jo<|Jw1 _ ⟨(λb=>ren [(19,18),(18,19)]<|ci b),g,f,e,c,d,R,(Jy2 ((T7 o i ah K ak aU bi).wk R) [(19,18),(18,19)] R),((eF.stp<|aU.tr bi).map (ren [(19,18),(18,19)]) R R),((eG.stp bi).map (ren [(19,18),(18,19)]) R R),(eH.map (ren [(19,18),(18,19)]) R R)⟩<|KM R⟩⟩⟩⟩
 refine Jx3 (κ:=aG) (E:=E6) 17 R Y37 bS R λW X gC cj n bE=>⟨(n.cl R),Jp1<|WA.fork2 (fuel:=5) 0 11 (by kernel_rfl) R ?_ ?_⟩
 refine Jx3 (κ:=cj) (E:=E6) 18 R Y37 bS R λbB bC gD ck t cQ=>⟨((n.tr t).cl R),Jp1<|WA.fork2 (fuel:=4) 4 11 (by kernel_rfl) R ?_ ?_⟩
 refine Jy3 (κ:=ck) (E:=E6) 18 [] R Y37 bS R cQ (Sl.srcP (bY _)<|B.stp<|n.tr t) bU C R λf e gE cl al cR=>⟨((T3 n t al).cl R),Jp1<|WA.fork2 (fuel:=3) 9 11 (by kernel_rfl) R ?_ ?_⟩
 have a5:=(T3 n t al)
 exact Jy3 (κ:=cl) (E:=E6) 17 [] R Y37 bS R (bE.stp<|t.tr al) (Sl.srcP (bY _)<|p.stp a5) bU q R λc d gF dw aV eJ=>⟨((a5.tr aV).cl R),Jp1<|Jq1 (fuel:=0) [(10,2),(11,1),(12,1)] (by kernel_rfl) (by kernel_rfl) R<|Jf R (Ji4 [.slice f j.length e,.slice c m.length d] R)<|Jt3 (κ:=dw) 19 R X39 R λg gG cm aW eK=>⟨((T3 a5 aV aW).cl R),Jh4 (κ:=cm) 19 R Z39 R eK R λgH bj eL=>⟨((T4 a5 aV aW bj).cl R),Jp1<|Jr1 [] (by kernel_rfl) (by kernel_rfl) R<|Jo<|Jw1 _ ⟨(λb=>ren [(18,17),(17,18)]<|cm b),g,f,e,c,d,R,(Jy2 ((T7 o n t al aV aW bj).wk R) [(18,17),(17,18)] R),((cR.stp<|T3 aV aW bj).map (ren [(18,17),(17,18)]) R R),((eJ.stp<|aW.tr bj).map (ren [(18,17),(17,18)]) R R),(eL.map (ren [(18,17),(17,18)]) R R)⟩<|KM R⟩⟩⟩
 have a6:=(T3 n t al)
 exact Jt3 (κ:=cl) 19 R X39 R λg gI dx am eM=>⟨((a6.tr am).cl R),Jp1<|Jq1 (fuel:=0) [(9,1),(10,2),(12,1)] (by kernel_rfl) (by kernel_rfl) R<|Jy3 (κ:=dx) (E:=E6) 17 [] R Y37 bS R (bE.stp<|T3 t al am) (Sl.srcP (bY _)<|p.stp<|a6.tr am) bU q R λc d gJ cn aX eN=>⟨((T3 a6 am aX).cl R),Jf R (Ji4 [.slice f j.length e,.slice c m.length d] R)<|Jh4 (κ:=cn) 19 R Z39 R (eM.stp aX) R λgK bk eO=>⟨((T4 a6 am aX bk).cl R),Jp1<|Jr1 [] (by kernel_rfl) (by kernel_rfl) R<|Jo<|Jw1 _ ⟨(λb=>ren [(18,17),(17,18)]<|cn b),g,f,e,c,d,R,(Jy2 ((T7 o n t al am aX bk).wk R) [(18,17),(17,18)] R),((cR.stp<|T3 am aX bk).map (ren [(18,17),(17,18)]) R R),((eN.stp bk).map (ren [(18,17),(17,18)]) R R),(eO.map (ren [(18,17),(17,18)]) R R)⟩<|KM R⟩⟩⟩
 have az:=(n.tr t)
 exact Jt3 (κ:=ck) 19 R X39 R λg gL dy M eP=>⟨((az.tr M).cl R),Jp1<|Jq1 (fuel:=0) [(4,1),(9,1),(10,2),(12,1)] (by kernel_rfl) (by kernel_rfl) R<|Jy3 (κ:=dy) (E:=E6) 18 [] R Y37 bS R (cQ.stp M) (Sl.srcP (bY _)<|B.stp<|az.tr M) bU C R λf e gM dz an eQ=>⟨((T3 az M an).cl R),Jy3 (κ:=dz) (E:=E6) 17 [] R Y37 bS R (bE.stp<|T3 t M an) (Sl.srcP (bY _)<|p.stp<|T3 az M an) bU q R λc d gN co aY eR=>⟨((T4 az M an aY).cl R),Jf R (Ji4 [.slice f j.length e,.slice c m.length d] R)<|Jh4 (κ:=co) 19 R Z39 R (eP.stp<|an.tr aY) R λgO bl eS=>⟨((T5 az M an aY bl).cl R),Jp1<|Jr1 [] (by kernel_rfl) (by kernel_rfl) R<|Jo<|Jw1 _ ⟨(λb=>ren [(18,17),(17,18)]<|co b),g,f,e,c,d,R,(Jy2 ((T7 o n t M an aY bl).wk R) [(18,17),(17,18)] R),((eQ.stp<|aY.tr bl).map (ren [(18,17),(17,18)]) R R),((eR.stp bl).map (ren [(18,17),(17,18)]) R R),(eS.map (ren [(18,17),(17,18)]) R R)⟩<|KM R⟩⟩⟩⟩
 exact Jt3 (κ:=cj) 18 R X39 R λg gP dA N eT=>⟨((n.tr N).cl R),Jp1<|Jq1 (fuel:=0) [(0,1),(4,1),(9,1),(10,2),(12,1)] (by kernel_rfl) (by kernel_rfl) R<|Jx3 (κ:=dA) (E:=E6) 19 R Y37 bS R λbB bC gQ dB O eU=>⟨((T3 n N O).cl R),Jy3 (κ:=dB) (E:=E6) 19 [] R Y37 bS R eU (Sl.srcP (bY _)<|B.stp<|T3 n N O) bU C R λf e gR dC ao eW=>⟨((T4 n N O ao).cl R),Jy3 (κ:=dC) (E:=E6) 17 [] R Y37 bS R (bE.stp<|T3 N O ao) (Sl.srcP (bY _)<|p.stp<|T4 n N O ao) bU q R λc d gS cp aZ eX=>⟨((T5 n N O ao aZ).cl R),Jf R (Ji4 [.slice f j.length e,.slice c m.length d] R)<|Jh4 (κ:=cp) 18 R Z39 R (eT.stp<|T3 O ao aZ) R λgT bm eY=>⟨((T6 n N O ao aZ bm).cl R),Jp1<|Jr1 [] (by kernel_rfl) (by kernel_rfl) R<|Jo<|Jw1 _ ⟨(λb=>ren [(19,17),(17,18),(18,19)]<|cp b),g,f,e,c,d,R,(Jy2 ((T7 o n N O ao aZ bm).wk R) [(19,17),(17,18),(18,19)] R),((eW.stp<|aZ.tr bm).map (ren [(19,17),(17,18),(18,19)]) R R),((eX.stp bm).map (ren [(19,17),(17,18),(18,19)]) R R),(eY.map (ren [(19,17),(17,18),(18,19)]) R R)⟩<|KM R⟩⟩⟩⟩⟩
 refine Jt3 (κ:=aG) 17 R X39 R λg gU cq s bQ=>⟨(s.cl R),Jp1<|WA.fork2 (fuel:=5) 0 5 (by kernel_rfl) R ?_ ?_⟩
 refine Jx3 (κ:=cq) (E:=E6) 18 R Y37 bS R λbB bC gV cr ap cW=>⟨((s.tr ap).cl R),Jp1<|WA.fork2 (fuel:=4) 4 5 (by kernel_rfl) R ?_ ?_⟩
 have aA:=(s.tr ap)
 exact Jy3 (κ:=cr) (E:=E6) 18 [] R Y37 bS R cW (Sl.srcP (bY _)<|B.stp aA) bU C R λf e gW dD aq eZ=>⟨((aA.tr aq).cl R),Jp1<|Jq1 (fuel:=0) [(5,1),(9,1),(10,2),(12,1)] (by kernel_rfl) (by kernel_rfl) R<|Jx3 (κ:=dD) (E:=E6) 19 R Y37 bS R λW X gX dE au e0=>⟨((T3 aA aq au).cl R),Jy3 (κ:=dE) (E:=E6) 19 [] R Y37 bS R e0 (Sl.srcP (bY _)<|p.stp<|T3 aA aq au) bU q R λc d gZ cs a0 e1=>⟨((T4 aA aq au a0).cl R),Jf R (Ji4 [.slice f j.length e,.slice c m.length d] R)<|Jh4 (κ:=cs) 17 R Z39 R (bQ.stp<|T4 ap aq au a0) R λg0 bn e2=>⟨((T5 aA aq au a0 bn).cl R),Jp1<|Jr1 [] (by kernel_rfl) (by kernel_rfl) R<|Jo<|Jw1 _ ⟨(λb=>ren [(18,17),(19,18),(17,19)]<|cs b),g,f,e,c,d,R,(Jy2 ((T7 o s ap aq au a0 bn).wk R) [(18,17),(19,18),(17,19)] R),((eZ.stp<|T3 au a0 bn).map (ren [(18,17),(19,18),(17,19)]) R R),((e1.stp bn).map (ren [(18,17),(19,18),(17,19)]) R R),(e2.map (ren [(18,17),(19,18),(17,19)]) R R)⟩<|KM R⟩⟩⟩⟩
 have aB:=(s.tr ap)
 exact Jx3 (κ:=cr) (E:=E6) 19 R Y37 bS R λW X g1 dF P e3=>⟨((aB.tr P).cl R),Jp1<|Jq1 (fuel:=0) [(4,1),(9,1),(10,2),(12,1)] (by kernel_rfl) (by kernel_rfl) R<|Jy3 (κ:=dF) (E:=E6) 18 [] R Y37 bS R (cW.stp P) (Sl.srcP (bY _)<|B.stp<|aB.tr P) bU C R λf e g2 dG av e4=>⟨((T3 aB P av).cl R),Jy3 (κ:=dG) (E:=E6) 19 [] R Y37 bS R (e3.stp av) (Sl.srcP (bY _)<|p.stp<|T3 aB P av) bU q R λc d g3 ct a1 e5=>⟨((T4 aB P av a1).cl R),Jf R (Ji4 [.slice f j.length e,.slice c m.length d] R)<|Jh4 (κ:=ct) 17 R Z39 R (bQ.stp<|T4 ap P av a1) R λg4 bo e7=>⟨((T5 aB P av a1 bo).cl R),Jp1<|Jr1 [] (by kernel_rfl) (by kernel_rfl) R<|Jo<|Jw1 _ ⟨(λb=>ren [(18,17),(19,18),(17,19)]<|ct b),g,f,e,c,d,R,(Jy2 ((T7 o s ap P av a1 bo).wk R) [(18,17),(19,18),(17,19)] R),((e4.stp<|a1.tr bo).map (ren [(18,17),(19,18),(17,19)]) R R),((e5.stp bo).map (ren [(18,17),(19,18),(17,19)]) R R),(e7.map (ren [(18,17),(19,18),(17,19)]) R R)⟩<|KM R⟩⟩⟩⟩
 exact Jx3 (κ:=cq) (E:=E6) 18 R Y37 bS R λW X g5 dH Q e8=>⟨((s.tr Q).cl R),Jp1<|Jq1 (fuel:=0) [(0,1),(4,1),(9,1),(10,2),(12,1)] (by kernel_rfl) (by kernel_rfl) R<|Jx3 (κ:=dH) (E:=E6) 19 R Y37 bS R λbB bC g6 dI S fa=>⟨((T3 s Q S).cl R),Jy3 (κ:=dI) (E:=E6) 19 [] R Y37 bS R fa (Sl.srcP (bY _)<|B.stp<|T3 s Q S) bU C R λf e g7 dJ aw fb=>⟨((T4 s Q S aw).cl R),Jy3 (κ:=dJ) (E:=E6) 18 [] R Y37 bS R (e8.stp<|S.tr aw) (Sl.srcP (bY _)<|p.stp<|T4 s Q S aw) bU q R λc d g8 cv a2 fd=>⟨((T5 s Q S aw a2).cl R),Jf R (Ji4 [.slice f j.length e,.slice c m.length d] R)<|Jh4 (κ:=cv) 17 R Z39 R (bQ.stp<|T4 Q S aw a2) R λg9 bp fe=>⟨((T6 s Q S aw a2 bp).cl R),Jp1<|Jr1 [] (by kernel_rfl) (by kernel_rfl) R<|Jo<|Jw1 _ ⟨(λb=>ren [(19,17),(17,19)]<|cv b),g,f,e,c,d,R,(Jy2 ((T7 o s Q S aw a2 bp).wk R) [(19,17),(17,19)] R),((fb.stp<|a2.tr bp).map (ren [(19,17),(17,19)]) R R),((fd.stp bp).map (ren [(19,17),(17,19)]) R R),(fe.map (ren [(19,17),(17,19)]) R R)⟩<|KM R⟩⟩⟩⟩⟩
 rintro _ fX ⟨bZ,g,bx,bz,bw,bu,rfl,cB,d7,d9,ea⟩
 refine Jp<|Jq<|Js1 (κ:=bZ) [19] none [(1,2),(0,0),(2,0),(3,2),(4,2),(5,2),(6,2),(7,0),(8,2),(9,2),(10,2),(11,1),(12,2)] [] (by kernel_rfl) (by kernel_rfl) λfC bq=>Jd3 R U39 R Z37 ?_
 have bR:=ea.stp bq
 refine Jg R (Jc4 (haC bR.cells R) I39 Z39 R)<|Jg R (Jc2 I37 R R<|hvC (bR.ld 0 R R) R)<|Jn3 R U37 R R<|Jn 2 R<|Ob h λfA h fs=>Jf4 [6,55] 65 fA bZ fC [(6,2),(7,0),(8,2),(9,2),(10,2)] [(11,1),(12,2)] (Cl.refl _ _ _) ?_ ?_
 revert h
 cases fL:decide ((((⟨j,m⟩:Word).Stem).length:Int)<=600)
 refine JF λh=>Jn 1 R<|Ja4 R<|Jn 3 R ?_
 cases h
 exact Jv1 _ (Cl.refl _ _ _) ⟨R,_,Jj3⟩<|KM R
 refine JT λh=>Jd3 R U39 R Z37<|Jg R (Jc2 I37 R R<|hvC (bR.ld 1 R R) R)<|Jn3 R U37 R R<|Jn 2 R ?_
 cases h
 exact Jv1 _ (Cl.refl _ _ _) ⟨R,_,Jj3⟩<|KM R
 rintro _ hb _ ⟨rfl,cw,br⟩
 have h:=fs
 refine Jh4 (κ:=cw) 5 R Z39 R (eb.stp<|T13 I F G y z a3 V bI Z aJ cB bq br) R λhc bH ff=>⟨((br.tr bH).cl R),Jn 1 R<|Jt1<|Jd<|Ju<|Ja2 (l:=[.cell 6 39,.tmp 7]) V156 (cd R ff I39 Z39 R<|Jp2 R R) R ?_⟩
 cases h
 have cz:=(T3 bq br bH)
 exact⟨(λb=>ren [(17,2),(18,3)]<|cw b),bx,bz,bw,bu,R,((fr.stp<|aT.tr<|aF.tr<|Y.tr<|T.tr<|I.tr<|F.tr<|G.tr<|y.tr<|z.tr<|a3.tr<|V.tr<|bI.tr<|Z.tr<|aJ.tr<|cB.tr<|bq.tr<|br.tr bH).map (ren [(17,2),(18,3)]) R R),((d7.stp cz).map (ren [(17,2),(18,3)]) R R),((d9.stp cz).map (ren [(17,2),(18,3)]) R R)⟩
theorem kD {p0:Int}{b c d a}{c0:Clause}{e}(o:Rd (Rp.int .i64) κ w 0 b c c0.A) (j:Rd (Rp.int .i64) κ w 0 d a c0.B) (k:Bc κ w 0 e 67 [vi c0.Kind,.slice b c0.A.length c,.slice d c0.B.length a]){r:Bool}(h:eA p0 c0=some r):Ret Tryz.prog 256 [vi p0,.pointer (some ⟨e,0,none⟩)] w (Pvb κ w r):=by
 unfold eA at h
 refine Jk3 κ F256 R N256 R λm=>Je3 R<|Je [2,1,2,1,2] R<|Jd3 R U67 R Z37<|Jb3 R I37 (k.ld 2 R R)<|Jn 1 R<|Ob h λs n h=>Jr3 R C89 (ch (κ:=Mk κ) (Ji3 j) n) ?_
 rintro _ w1 ⟨p,rfl,i⟩
 obtain⟨f,g,q⟩:=Ji i 2 R
 refine Tv<|Jb 1 R<|Ju<|Ja2 (l:=[.tmp 3]) V256 (Jp2 R R) R ?_
 cases h
 exact⟨f,R,(m.stp g)⟩
end Go.Proofs.YtleekpaohfpooaaGreat
