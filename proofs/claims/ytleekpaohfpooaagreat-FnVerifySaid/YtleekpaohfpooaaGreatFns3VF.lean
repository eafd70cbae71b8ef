/- The walks, part 3. By program. -/
import Derived.Test.YtleekpaohfpooaaGreatFns0VF
import Derived.Test.YtleekpaohfpooaaGreatFns1VF
set_option linter.unusedVariables false
set_option linter.unusedSimpArgs false
open Go.IntKind renaming wrap → bM
open Sum renaming inr → cb, inl → eg
open Int renaming toNat → hV
namespace Go.Proofs.YtleekpaohfpooaaGreat
open Go Go.Wk Go.Proofs
set_option maxRecDepth 100000
set_option maxHeartbeats 1000000
variable {w:World}{κ:Col}
theorem p9 {m n}{p0:dice}{p1:Sig}{p2:Int}{o}(bX:Rd (Rp.int .u8) κ w 0 m n p0.b) (b0:Bc κ w 2 o 65 [.slice m p0.b.length n,vi p0.i,.int .u64 p0.h]){r:Machine×Int×Int}(h:j4 p0 p1 p2=some r):Ret Tryz.prog 24 [.pointer (some ⟨o,0,none⟩),.agg #[vi p1.In,vi p1.Out],vi p2] w (λv w'=>∃(κ':Col) (aZ:Option Addr) (a1:Nat) (a0:Option Addr) (a2:Nat),v= .agg #[.slice aZ r.1.Next.length a1,.slice a0 r.1.Out.length a2]/\Ent κ w κ' w'/\Oc (Ep.own E6 2) 37 κ' w' 3 aZ a1 r.1.Next/\Oc (Ep.own E6 2) 37 κ' w' 4 a0 a2 r.1.Out/\Bc κ' w' 2 o 65 [.slice m p0.b.length n,vi r.2.1,.int .u64 r.2.2]):=by
 unfold j4 at h
 refine Jk3 κ F24 R N24 R λb1=>Je [1,1] R<|Js3 (κ:=κ) 3 R λcH w1 bc aq bH=>Tv<|Jt3 (κ:=bc) 4 R X33 R λcI c6 bd S bT=>Tv<|Jd<|Jg3 [2,2,1,2,2] 2 R<|Ob h λp ci h=>?_
 have aW:=bX.stp (aq.tr S)
 refine Jr3 R C25 (cW (κ:=λb=>mp [(2,2)] 0<|bd b) (p0:=p0) (Jl2 aW (mp [(2,2)] 0) R R) ((b0.stp<|aq.tr S).map (mp [(2,2)] 0) R R) ci) ?_
 rintro _ cS ⟨cO,rfl,br,bA⟩
 obtain⟨bb,Q,cq⟩:=Ji br 5 R
 refine Tv<|Jb 2 R<|Je [2,1,1] R<|Jf R (Ji4 [.slice none 0 0,.slice none 0 0] R)<|Jt3 (κ:=bb) 8 R X33 R λaK c3 J B bF=>Tv<|Jh4 (κ:=J) 8 R Z33 R bF R λcu C bG=>Tv<|Jd<|Je3 R<|Je3 R<|Jq<|Je [2,1,2] R<|Jd3 R U28 R Z2 ?_
 have aN:=bH.stp (T4 S Q B C)
 refine Jb3 R I2 (aN.ld 0 R R)<|Jb 1 R<|Ob h λI h b2=>Jo3 [0,4,6,7,8,10] (λE L w'=>∃κ',L=(9,vi I)::E/\Stp [] J cu κ' w') ?_ ?_
 revert h
 cases cL:(p1.In==2)
 refine JF λh=>Jy R<|Js ?_
 cases h
 exact Jw1 _ ⟨J,R,Jj3⟩<|KM R
 refine JT λh=>Jx R<|Jf3 R ?_
 cases h
 exact Jw1 _ ⟨J,R,Jj3⟩<|KM R
 rintro _ cv ⟨al,rfl,s⟩
 have h:=b2
 refine Jp<|Jq<|Je [2,1,2] R<|Jd3 R U28 R Z2<|Jb3 R I2 ((aN.stp s).ld 1 R R)<|Jb 1 R<|Ob h λaA h b3=>Jo3 [0,6,7,8,9] (λE L w'=>∃κ',L=(10,vi aA)::E/\Stp [] al cv κ' w') ?_ ?_
 revert h
 cases cM:(p1.Out==2)
 refine JF λh=>Jy R<|Js ?_
 cases h
 exact Jw1 _ ⟨al,R,Jj3⟩<|KM R
 refine JT λh=>Jx R<|Jf3 R ?_
 cases h
 exact Jw1 _ ⟨al,R,Jj3⟩<|KM R
 rintro _ a3 ⟨am,rfl,D⟩
 have h:=b3
 refine Jp<|Jq<|Je3 R<|Ob h λ_ ce h=>?_
 have b6:=ms ce
 refine Ob h λaX ca b4=>?_
 clear h
 refine Jo3 [0,6,8] (λE L w'=>∃κ',∃i:Int×Int×(List<|List Int)×(List<|List Int),∃ae aj V ah,L=E/\Stp [7,8,9,10,11,12,13,14,15,19] am a3 κ' w'/\Oc (Ep.own E6 2) 37 κ' w' 9 ae aj i.2.2.1/\Oc (Ep.own E6 2) 37 κ' w' 10 V ah i.2.2.2/\Bc κ' w' 7 o 65 [.slice m p0.b.length n,vi i.1,.int .u64 i.2.1]/\Bc κ' w' 8 aK 33 [.slice ae i.2.2.1.length aj,.slice V i.2.2.2.length ah]/\aX=cb i) ?_ ?_
 refine Jv<|Jp3 [0,6,7,8,9,10] (λk E L w'=>∃κ' f,∃c:Int×Int×(List<|List Int)×(List<|List Int),∃Z aa H G,L=(11,vi f)::E/\Stp [7,8,9,10,11,12,13,14,15,19] am a3 κ' w'/\Oc (Ep.own E6 2) 37 κ' w' 9 Z aa c.2.2.1/\Oc (Ep.own E6 2) 37 κ' w' 10 H G c.2.2.2/\Bc κ' w' 7 o 65 [.slice m p0.b.length n,vi c.1,.int .u64 c.2.1]/\Bc κ' w' 8 aK 33 [.slice Z c.2.2.1.length aa,.slice H c.2.2.2.length G]/\0<=f/\hV ((IntKind.i64.wrap (1+p.1))-f)=k/\cntM (gx p0 p I aA) k f c=some aX) ⟨_,_,⟨am,0,(p.2.1,p.2.2,(([]:List (List Int)):(List<|List Int)),(([]:List (List Int)):(List<|List Int))),none,0,none,0,R,Jj3,Ow.nil,Ow.nil,((bA.mx cq R (R:5+2=7)).stp (T4 B C s D)),(bG.stp<|s.tr D),(by decide),(by simp),ca⟩,(KM R)⟩ ?_
 rintro k _ c5 ⟨aH,f,c,Z,aa,H,G,rfl,au,aO,aP,aQ,aR,b8,cJ,h⟩
 rcases k with _ | k
 have ay:=h;obtain⟨cs,h⟩:=cw (cb (eg c):(Machine×Int×Int)⊕((Int×Int×(List (List Int))×(List (List Int)))⊕(Int×Int×(List (List Int))×(List (List Int)))))
 have u:decide (f<(IntKind.i64.wrap (1+p.1)))=false:=Jo2 (by omega)
 refine Jq<|Je3 R<|Jw2 R u<|Jc1<|Jt<|Jt ?_
 cases h
 have h:=ay
 refine Jb1 ?_
 cases h
 exact Jw1 _ ⟨aH,(c.1,c.2.1,c.2.2.1,c.2.2.2),Z,aa,H,G,R,au.wk R,aO,aP,aQ,aR,R⟩<|KM R
 obtain⟨cs,h,ay⟩:=BI h;unfold gx at h
 have u:decide (f<(IntKind.i64.wrap (1+p.1)))=true:=Jn2 (by omega)
 refine Jq<|Je3 R<|Jv2 R u<|Js<|Jp<|Jq<|Jv<|Je [1,2] R<|Jx3 (κ:=aH) (E:=E6) 11 R Y37 bS R λbn bj c7 be t bN=>Tv<|Jb 1 R<|Je [1,2] R<|Jx3 (κ:=be) (E:=E6) 12 R Y37 bS R λbi bp a4 an j bO=>Tv<|Jb 1 R<|Jq<|Je3 R<|Ob h λ_ cf h=>?_
 have b7:=ms cf
 refine Ob h λaY cc b5=>?_
 clear h
 refine Jo3 [0,6,7,8,9,10,11] (λE L w'=>∃κ',∃e:(List Int)×(List Int)×Int×Int,∃ar ab ai W,L=(12,.slice ar e.1.length ab)::(13,.slice ai e.2.1.length W)::E/\Stp [7,11,12,15,19] an a4 κ' w'/\Oc E6 2 κ' w' 11 ar ab e.1/\Oc E6 2 κ' w' 12 ai W e.2.1/\Bc κ' w' 7 o 65 [.slice m p0.b.length n,vi e.2.2.1,.int .u64 e.2.2.2]/\aY=cb e) ?_ ?_
 refine Jv<|Jp3 [0,6,7,8,9,10,11] (λk E L w'=>∃κ' g,∃d:(List Int)×(List Int)×Int×Int,∃af ac Y X,L=(12,.slice af d.1.length ac)::(13,.slice Y d.2.1.length X)::(14,vi g)::E/\Stp [7,11,12,15,19] an a4 κ' w'/\Oc E6 2 κ' w' 11 af ac d.1/\Oc E6 2 κ' w' 12 Y X d.2.1/\Bc κ' w' 7 o 65 [.slice m p0.b.length n,vi d.2.2.1,.int .u64 d.2.2.2]/\0<=g/\hV (I-g)=k/\cntM (gz p0 p aA) k g d=some aY) ⟨_,_,⟨an,0,((([]:List Int):(List Int)),(([]:List Int):(List Int)),c.1,c.2.1),bn,bj,bi,bp,R,Jj3,(bN.stp j),bO,(aQ.stp<|t.tr j),(by decide),(by simp),cc⟩,(KM R)⟩ ?_
 rintro k _ c9 ⟨aI,g,d,af,ac,Y,X,rfl,av,aS,aT,aU,b9,cK,h⟩
 rcases k with _ | k
 have az:=h;obtain⟨ct,h⟩:=cw (cb (eg d):(Machine×Int×Int)⊕(((List Int)×(List Int)×Int×Int)⊕((List Int)×(List Int)×Int×Int)))
 have x:decide (g<I)=false:=Jo2 (by omega)
 refine Jq<|Je3 R<|Jw2 R x<|Jc1<|Jt<|Jt ?_
 cases h
 have h:=az
 refine Jb1 ?_
 cases h
 exact Jw1 _ ⟨aI,(d.1,d.2.1,d.2.2.1,d.2.2.2),af,ac,Y,X,R,av.wk R,aS,aT,aU,R⟩<|KM R
 obtain⟨ct,h,az⟩:=BI h;unfold gz at h
 have x:decide (g<I)=true:=Jn2 (by omega)
 refine Jq<|Je3 R<|Jv2 R x<|Js<|Jp<|Jq<|Jv<|Jg3 [2,2,2,1,1,1,2] 3 R<|Ob h λaB cj h=>?_
 have aV:=aW.stp (T9 Q B C s D au t j av)
 refine Jr3 R C25 (cW (κ:=λb=>mp [(7,2)] 0<|aI b) (p0:=(⟨p0.b,d.2.2.1,d.2.2.2⟩:dice)) (Jl2 aV (mp [(7,2)] 0) R R) (aU.map (mp [(7,2)] 0) R R) cj) ?_
 rintro _ da ⟨cP,rfl,bs,bV⟩
 obtain⟨bg,U,cr⟩:=Ji bs 13 R
 refine Tv<|Jd4 (κ:=bg) 16 [aB.1] R Y37 bS R λcF cG db bh F bW=>Tv<|Ob h λcx ck h=>Jy3 (κ:=bh) (E:=E6) 11 [] R Y37 bS R (aS.stp<|U.tr F) (Sl.srcP (bY _) bW.rdc) bU ck R λbk bl cQ a5 K bt=>Tv<|Jb 1 R<|Jh3 [2,2,2,1,1,1,2] 3 R<|Ob h λaC cl h=>Jr3 R C25 (cW (κ:=λb=>mp [(15,2)] 0<|a5 b) (p0:=(⟨p0.b,aB.2.1,aB.2.2⟩:dice)) (Jl2 (aV.stp<|T3 U F K) (mp [(15,2)] 0) R R) (((bV.mx cr R (R:13+2=15)).stp (F.tr K)).map (mp [(15,2)] 0) R R) cl) ?_
 rintro _ cR ⟨cN,rfl,bq,bu⟩
 obtain⟨a6,ao,cp⟩:=Ji bq 17 R
 refine Tv<|Jd4 (κ:=a6) 20 [aC.1] R Y37 bS R λcC cB cT a7 M bv=>Tv<|Ob h λcy cm h=>Jy3 (κ:=a7) (E:=E6) 12 [] R Y37 bS R (aT.stp<|T5 U F K ao M) (Sl.srcP (bY _) bv.rdc) bU cm R λbm bo cU a8 ap bw=>Tv<|Jc 1 R<|Jz<|Jp<|Jf3 R ?_
 have ch:bM .i64 (g+1)=g+1:=wr1 b9 (Jm2 x) b7
 rw[ch]
 have x:=Jm2 x
 cases h
 exact Jz1 λa ha=>⟨k,_,Ja3 _,⟨(λb=>ren [(19,7)]<|a8 b),g+1,(cx,cy,aC.2.1,aC.2.2),bk,bl,bm,bo,R,(Jy2 ((T7 av U F K ao M ap).wk R) [(19,7)] R),((bt.stp<|T3 ao M ap).map (ren [(19,7)]) R R),(bw.map (ren [(19,7)]) R R),(((bu.mx cp R (R:17+2=19)).stp (M.tr ap)).map (ren [(19,7)]) R R),by omega,by omega,az⟩,(ha.mm R)⟩
 rintro _ c8 ⟨bf,e,ar,ab,ai,W,rfl,T,bP,bQ,bR,rfl⟩
 have h:=yI b5
 refine Jp<|Je [2,1,2,1,1,2,1] R<|Jd3 R U33 R Z31 ?_
 have aL:=aR.stp (T3 t j T)
 refine Jb3 R I31 (aL.ld 0 R R)<|Jn 1 R<|Jw3 (κ:=bf) (E:=(Ep.own E6 2)) 13 [11] (parts:=[(0,.tmp 52)]) (cells:=[.slice ar e.1.length ab]) (xs:=([e.1]:List (List Int))) R Y31 bZ R (Je4 ⟨_,_,R,bP⟩) λcA cD cV a9 q bx=>Tv<|Ob h λak cn h=>Jy3 (κ:=a9) (E:=(Ep.own E6 2)) 9 [13] R Y31 bZ R (aO.stp<|T4 t j T q) bx.src (dG R) cn R λag ad cX aE y bz=>Tv<|Jd3 R U33 R Z31<|Ju3 (κ:=aE) 8 (off:=0) (vc:=[.slice ag ak.length ad]) (cs':=[.slice ag ak.length ad,.slice H c.2.2.2.length G]) R Z31 R (aL.stp<|q.tr y) R λcY z aM=>Tv<|Jd<|Ja [2,1,2,1,1,2,1] R<|Jd3 R U33 R Z31<|Jb3 R I31 (aM.ld 1 R R)<|Jn 1 R<|Jw3 (κ:=aE) (E:=(Ep.own E6 2)) 14 [12] (parts:=[(0,.tmp 58)]) (cells:=[.slice ai e.2.1.length W]) (xs:=([e.2.1]:List (List Int))) R Y31 bZ R (Je4 ⟨_,_,R,(bQ.stp<|T3 q y z)⟩) λcz cE cZ ba A bB=>Tv<|Ob h λaD co h=>Jy3 (κ:=ba) (E:=(Ep.own E6 2)) 10 [14] R Y31 bZ R (aP.stp<|T7 t j T q y z A) bB.src (dG R) co R λaw ax c0 aF N bC=>Tv<|Jd3 R U33 R Z31<|Ju3 (κ:=aF) 8 (off:=1) (vc:=[.slice aw aD.length ax]) (cs':=[.slice ag ak.length ad,.slice aw aD.length ax]) R Z31 R (aM.stp<|A.tr N) R λc1 O bD=>Tv<|Jo<|Jz<|Jp<|Jf3 R ?_
 have cg:bM .i64 (f+1)=f+1:=wr1 b8 (Jm2 u) b6
 rw[cg]
 have u:=Jm2 u
 cases h
 exact Jz1 λa ha=>⟨k,_,Ja3 _,⟨aF,f+1,(e.2.2.1,e.2.2.2,ak,aD),ag,ad,aw,ax,R,(T10 au t j T q y z A N O).wk R,(bz.stp<|T4 z A N O),(bC.stp O),(bR.stp<|T6 q y z A N O),bD,by omega,by omega,ay⟩,(ha.mm R)⟩
 rintro _ c4 ⟨aG,i,ae,aj,V,ah,rfl,aJ,bI,bJ,bK,bL,rfl⟩
 have h:=yI b4
 refine Jp<|Je [1,1] R<|Jb4 tv R (Jc4 (haE bL.cells) I33 Z33 R)<|Jh4 (κ:=aG) 4 R Z33 R (bT.stp<|T6 Q B C s D aJ) R λc2 P bE=>Tv<|Jd<|Ju<|Ja2 (l:=[.cell 6 33]) V24 (cd R bE I33 Z33 R R) R ?_
 cases h
 exact⟨(λb=>ren [(9,3),(10,4),(7,2)]<|aG b),ae,aj,V,ah,R,((b1.stp<|T9 aq S Q B C s D aJ P).map (ren [(9,3),(10,4),(7,2)]) R R),((bI.stp P).map (ren [(9,3),(10,4),(7,2)]) R R),((bJ.stp P).map (ren [(9,3),(10,4),(7,2)]) R R),((bK.stp P).map (ren [(9,3),(10,4),(7,2)]) R R)⟩
theorem iK {p0:Sig}  {r:Bool}(h:jo p0=some r):Ret Tryz.prog 58 [.agg #[vi p0.In,vi p0.Out]] w (Pvb κ w r):=by
 unfold jo at h
 refine Jk3 κ F58 R N58 R λm=>Je [1,2] R<|Js3 (κ:=κ) 2 R λv w1 d i c=>Tv<|Jb 1 R<|Je [2,1,1,2,2,1,1,2,2] R<|Jd3 R U28 R Z2<|Jb3 R I2 (c.ld 0 R R)<|Ob h λt o h=>Jr3 R C59 (de (κ:=Mk d) o) ?_
 rintro _ s ⟨z,rfl,k⟩
 obtain⟨a,b,A⟩:=Ji k 3 R
 refine Tv<|Jn 1 R<|Ob h λq h n=>Jf4 [2] 10 q a s [(4,2),(5,1),(6,1),(7,2)] [(8,2)] tv ?_ ?_
 revert h
 cases x:t
 refine JF λh=>Jn 1 R<|Jz3 R<|Jz3 R<|Jn 1 R ?_
 cases h
 exact Jg4 tv R
 refine JT λh=>Jd3 R U28 R Z2<|Jb3 R I2 ((c.stp b).ld 1 R R)<|Ob h λE p h=>Jr3 R C59 (de (κ:=Mk a) p) ?_
 rintro _ C ⟨y,rfl,j⟩
 obtain⟨u,f,B⟩:=Ji j 5 R
 refine Tv<|Jn 1 R ?_
 cases h
 exact Jv1 _ tv ⟨R,_,f.wk R⟩<|KM R
 rintro _ D _ ⟨rfl,e,g⟩
 have h:=n
 refine Jb 1 R<|Ju<|Ja2 (l:=[.tmp 2]) V58 (Jp2 R R) R ?_
 cases h
 exact⟨e,R,(m.stp<|T3 i b g)⟩
theorem sB {s B}{p0:(List Int)}{p1:Int}(m:Rd (Rp.int .i64) κ w 0 s B p0){r:Bool}(h:lZ p0 p1=some r):Ret Tryz.prog 215 [.slice s p0.length B,vi p1] w (Pvb κ w r):=by
 unfold lZ at h
 refine Jk3 κ F215 R N215 R λt=>Je3 R<|Jq<|Je3 R ?_
 have J:(p0.length:Int)<=9223372036854775807:=m.len_le
 refine Ob h λA M u=>?_
 clear h
 refine Jx1 (λL w'=>∃κ',L=[]/\Stp [] κ w κ' w'/\A=cb ()) ?_ ?_
 refine Jv<|Jp3 [0,1] (λk E L w'=>∃κ' b,L=(5,vi b)::E/\Stp [] κ w κ' w'/\0<=b/\hV ((p0.length:Int)-b)=k/\cntM (jv p0 p1) k b ()=some A) ⟨_,_,⟨κ,0,R,Jj3,(by decide),(by simp),M⟩,(KM R)⟩ ?_
 rintro k _ ae ⟨i,b,rfl,f,K,U,h⟩
 rcases k with _ | k
 have g:=h;obtain⟨P,h⟩:=cw (cb (eg ()):Bool⊕((Unit)⊕(Unit)))
 have d:decide (b<(p0.length:Int))=false:=Jo2 (by omega)
 refine Jq<|Jg3 [2,2,2,2] 2 R<|Jn3 R U37 R R<|Jb 1 R<|Jw2 R d<|Jc1<|Jt<|Jt ?_
 cases h
 have h:=g
 refine Jb1 ?_
 cases h
 exact Jw1 _ ⟨i,R,f.wk R,R⟩ KN
 obtain⟨P,h,g⟩:=BI h;unfold jv at h
 have d:decide (b<(p0.length:Int))=true:=Jn2 (by omega)
 refine Jq<|Jg3 [2,2,2,2] 2 R<|Jn3 R U37 R R<|Jb 1 R<|Jv2 R d<|Js<|Jp<|Jq<|Jv<|Jq<|Js1 (κ:=i) [0] none [(0,2),(1,2),(2,2),(4,2),(5,2),(3,0),(6,1),(7,2),(8,2),(9,2),(10,2),(11,2),(12,2),(13,2),(14,2),(16,2),(17,2),(18,2),(19,2),(15,0),(20,0),(21,2),(22,2),(23,2)] [] (by kernel_rfl) (by kernel_rfl) λaa j=>Jn 2 R<|Ob h λaf v h=>Jc3 R m v U37 Z2<|Jn 2 R ?_
 have e:=m.stp (f.tr j)
 refine Jg R (Jc2 I2 R R<|hvC (e.gInt v) R)<|Ob h λS O h=>Jr3 R C59 (de (κ:=Mk i) O) ?_
 rintro _ C ⟨Y,rfl,G⟩
 obtain⟨n,c,Z⟩:=Ji G 2 R
 refine⟨(c.cl R),Jn 2 R<|Ob h λz h H=>Jf4 [0,1,5] 35 z n C [(9,2),(10,2),(11,2),(12,2),(13,2),(14,2),(16,2),(17,2),(18,2),(19,2),(15,0),(20,0),(21,2),(22,2),(23,2)] [] (c.cl R) ?_ ?_⟩
 revert h
 cases V:(!S)
 refine JF λh=>Jn 3 R<|Ob h λQ h I=>Jf4 [0,1,5,20,21,22,23] 34 Q n C [(12,2),(13,2),(14,2),(16,2),(17,2),(18,2),(19,2),(15,0),(20,0),(21,2),(22,2)] [(23,2)] (c.cl R) ?_ ?_
 revert h
 cases W:decide (0<b)
 refine JF λh=>Jn 7 R<|Ja4 R<|Ja4 R<|Jn 2 R ?_
 cases h
 exact Jv1 _ (c.cl R) ⟨R,_,Jj3⟩<|KM R
 refine JT λh=>Jn 2 R<|Ob h λag x h=>Jc3 R e x U37 Z2<|Jn 3 R<|Ob h λah y h=>Jc3 R e y U37 Z2<|Jg R (Jc2 I2 R R<|hvC (e.gInt x) R)<|Jg R (Jc2 I2 R R<|hvC (e.gInt y) R)<|Jn 2 R ?_
 cases h
 exact Jv1 _ (c.cl R) ⟨R,_,Jj3⟩<|KM R
 rintro _ ab _ ⟨rfl,T,p⟩
 have h:=I
 refine Jn 1 R ?_
 cases h
 exact Jv1 _ ((c.tr p).cl R) ⟨R,_,p.wk R⟩<|KM R
 refine JT λh=>Jn 10 R<|Ja4 R<|Ja4 R<|Jn 3 R ?_
 cases h
 exact Jv1 _ (c.cl R) ⟨R,_,Jj3⟩<|KM R
 rintro _ ac _ ⟨rfl,o,q⟩
 have h:=H
 refine Jt1<|Jd ?_
 revert h
 cases X:z
 refine JF λh=>Jy R<|Js<|Jz<|Jp<|Jf3 R ?_
 have N:bM .i64 (b+1)=b+1:=wr1 K (Jm2 d) J
 rw[N]
 have d:=Jm2 d
 cases h
 exact Jz1 λa ha=>⟨k,_,Ja3 _,⟨o,b+1,R,(T4 f j c q).wk R,by omega,by omega,g⟩,(ha.mm R)⟩
 refine JT λh=>Jx R<|Je3 R<|Ju<|Ja1<|Jw<|Jw ?_
 cases h
 obtain rfl:=Option.some.inj g
 have h:=yL u
 refine Ja1<|Jq2<|Jw<|Ja2 (l:=[.tmp 4]) V215 (Jp2 R R) R ?_
 cases h
 exact⟨o,R,(t.stp<|T4 f j c q)⟩
 rintro _ ad ⟨D,rfl,F,rfl⟩
 have h:=yI u
 refine Jp<|Je3 R<|Ju<|Ja2 (l:=[.tmp 4]) V215 (Jp2 R R) R ?_
 cases h
 exact⟨D,R,(t.stp F)⟩
theorem nT {aD aS}{p0:(List Pair)}{a1 aT}{p1:(List (List Int))}{p2:Int}(aj:Rd Pair.rp κ w 0 aD aS p0) (ak:Rd (Rp.sl (Rp.int .i64)) κ w 0 a1 aT p1){r:(List Pair)}(h:jN p0 p1 p2=some r):Ret Tryz.prog 98 [.slice aD p0.length aS,.slice a1 p1.length aT,vi p2] w (Pvs Pair.ep127 127 κ w r):=by
 unfold jN at h
 refine Jk3 κ F98 R N98 R λbx=>Je3 R<|Je [1,2] R<|Jx3 (κ:=κ) (E:=Pair.ep127) 2 R Y69 dg R λba a9 w1 T Z bo=>Tv<|Jb 1 R<|Jq<|Je3 R ?_
 have bE:(p0.length:Int)<=9223372036854775807:=aj.len_le
 refine Ob h λaQ bN bB=>?_
 clear h
 refine Jx1 (λL w'=>∃κ',∃S:(List Pair),∃M N,L=[(7,.slice M S.length N)]/\Stp [2,3,4,5,6] T w1 κ' w'/\Oc Pair.ep127 127 κ' w' 2 M N S/\aQ=cb S) ?_ ?_
 refine Jv<|Jp3 [0,1,2] (λk E L w'=>∃κ' e,∃t:(List Pair),∃P J,L=(7,.slice P t.length J)::(8,vi e)::E/\Stp [2,3,4,5,6] T w1 κ' w'/\Oc Pair.ep127 127 κ' w' 2 P J t/\0<=e/\hV ((p0.length:Int)-e)=k/\cntM (iz p0 p1 p2) k e t=some aQ) ⟨_,_,⟨T,0,(([]:List Pair):(List Pair)),ba,a9,R,Jj3,bo,(by decide),(by simp),bN⟩,(KM R)⟩ ?_
 rintro k _ cH ⟨aq,e,t,P,J,rfl,F,aE,bG,cp,h⟩
 rcases k with _ | k
 have al:=h;obtain⟨b1,h⟩:=cw (cb (eg t):(List Pair)⊕(((List Pair))⊕((List Pair))))
 have s:decide (e<(p0.length:Int))=false:=Jo2 (by omega)
 refine Jq<|Jg3 [2,2,2,2] 2 R<|Jn3 R U69 R R<|Jb 1 R<|Jw2 R s<|Jc1<|Jt<|Jt ?_
 cases h
 have h:=al
 refine Jb1 ?_
 cases h
 exact Jw1 _ ⟨aq,t,P,J,R,F.wk R,aE,R⟩<|KM R
 obtain⟨b1,h,al⟩:=BI h;unfold iz at h
 have s:decide (e<(p0.length:Int))=true:=Jn2 (by omega)
 refine Jq<|Jg3 [2,2,2,2] 2 R<|Jn3 R U69 R R<|Jb 1 R<|Jv2 R s<|Js<|Jp<|Jq<|Jv<|Je [2,1,1] R<|Jf R (Ji4 [.slice none 0 0,.slice none 0 0] R)<|Jt3 (κ:=aq) 3 R X127 R λQ cJ D G bj=>Tv<|Jh4 (κ:=D) 3 R Z127 R bj R λaU H bk=>Tv<|Jd<|Jq<|Je3 R ?_
 have bD:(p1.length:Int)<=9223372036854775807:=ak.len_le
 refine Ob h λaR bL bz=>?_
 clear h
 refine Jo3 [0,1,2,7,8,9] (λE L w'=>∃κ',∃b:(List Int)×(List Int),∃B z x v,L=E/\Stp [3,4,5] D aU κ' w'/\Oc E6 2 κ' w' 4 B z b.1/\Oc E6 2 κ' w' 5 x v b.2/\Bc κ' w' 3 Q 127 [.slice B b.1.length z,.slice x b.2.length v]/\aR=cb b) ?_ ?_
 refine Jv<|Jp3 [0,1,2,7,8,9] (λk E L w'=>∃κ' c,∃d:(List Int)×(List Int),∃A y m n,L=(10,vi c)::E/\Stp [3,4,5] D aU κ' w'/\Oc E6 2 κ' w' 4 A y d.1/\Oc E6 2 κ' w' 5 m n d.2/\Bc κ' w' 3 Q 127 [.slice A d.1.length y,.slice m d.2.length n]/\0<=c/\hV ((p1.length:Int)-c)=k/\cntM (iA p0 p1 p2 e) k c d=some aR) ⟨_,_,⟨D,0,((([]:List Int):(List Int)),(([]:List Int):(List Int))),none,0,none,0,R,Jj3,Ow.nil,Ow.nil,bk,(by decide),(by simp),bL⟩,(KM R)⟩ ?_
 rintro k _ cK ⟨V,c,d,A,y,m,n,rfl,I,ae,af,ag,bF,co,h⟩
 rcases k with _ | k
 have am:=h;obtain⟨b0,h⟩:=cw (cb (eg d):(List Pair)⊕(((List Int)×(List Int))⊕((List Int)×(List Int))))
 have q:decide (c<(p1.length:Int))=false:=Jo2 (by omega)
 refine Jq<|Jg3 [2,2,2,2] 2 R<|Jn3 R U31 R R<|Jb 1 R<|Jw2 R q<|Jc1<|Jt<|Jt ?_
 cases h
 have h:=am
 refine Jb1 ?_
 cases h
 exact Jw1 _ ⟨V,(d.1,d.2),A,y,m,n,R,I.wk R,ae,af,ag,R⟩<|KM R
 obtain⟨b0,h,am⟩:=BI h;unfold iA at h
 have q:decide (c<(p1.length:Int))=true:=Jn2 (by omega)
 refine Jq<|Jg3 [2,2,2,2] 2 R<|Jn3 R U31 R R<|Jb 1 R<|Jv2 R q<|Js<|Jp<|Jq<|Jv<|Jq<|Jq<|Js1 (κ:=V) [0] none [(0,2),(1,2),(2,2),(3,2),(5,2),(6,2),(7,2),(9,2),(4,0),(8,0),(10,2),(11,0),(12,1)] [] (by kernel_rfl) (by kernel_rfl) λcL g=>Jn 2 R<|Ob h λcT aK h=>Jc3 R aj aK U69 Z127<|Jd3 R U127 R Z37<|Jn 2 R<|Ob h λcU aL h=>Jc3 R ak aL U31 Z37<|Jn 1 R ?_
 have ah:=aj.stp (T6 Z F G H I g)
 obtain⟨ck,bO,bJ⟩:=(ah).gSt aK
 obtain⟨ce,cx,cf,cy,rfl,bv,cm⟩:=Pair.un bO
 refine Jg R (Jc2 I37 R R<|hvC (λw' an=>bJ w' an 0 _ R) R) ?_
 have ai:=ak.stp (T6 Z F G H I g)
 obtain⟨ci,cB,aF,bH⟩:=ai.gSl aL
 refine Jg R (Jc2 I37 R R<|hvC bH R)<|Ob h λcV aM h=>Jc3 R aF aM U37 Z2<|Jg R (Jc2 I2 R R<|hvC (aF.gInt aM) R)<|Ob h λb4 bT h=>Jr3 R C81 (eN (κ:=Mk V) (Ji3 bv) bT) ?_
 rintro _ b2 ⟨cs,rfl,bb⟩
 obtain⟨W,f,cu⟩:=Ji bb 6 R
 refine⟨(f.cl R),Jt1<|Jd<|Ob h λC h bA=>Jo3 [0,1,2,7,8,9,10] (λE L w'=>∃κ' p o,L=E/\Stp [3,4] W b2 κ' w'/\Oc E6 2 κ' w' 4 p o C/\Bc κ' w' 3 Q 127 [.slice p C.length o,.slice m d.2.length n]) ?_ ?_⟩
 revert h
 cases cq:b4
 refine JF λh=>Jy R<|Js ?_
 cases h
 exact Jw1 _ ⟨W,A,y,R,Jj3,(ae.stp<|g.tr f),(ag.stp<|g.tr f)⟩<|KM R
 refine JT λh=>Jx R<|Ja [2,1,2,1,1,2,1] R<|Jd3 R U127 R Z37 ?_
 have aH:=ag.stp (g.tr f)
 refine Jb3 R I37 (aH.ld 0 R R)<|Jn 1 R<|Jd4 (κ:=W) 8 [c] R Y37 bS R λb7 cc cN a2 aa bq=>Tv<|Ob h λaW bV h=>Jy3 (κ:=a2) (E:=E6) 4 [] R Y37 bS R (ae.stp<|T3 g f aa) (Sl.srcP (bY _) bq.rdc) bU bV R λac ad cO av aA br=>Tv<|Jd3 R U127 R Z37<|Ju3 (κ:=av) 3 (off:=0) (vc:=[.slice ac aW.length ad]) (cs':=[.slice ac aW.length ad,.slice m d.2.length n]) R Z37 R (aH.stp<|aa.tr aA) R λcP aB bs=>Tv<|Jo ?_
 cases h
 exact Jw1 _ ⟨av,ac,ad,R,(T3 aa aA aB).wk R,(br.stp aB),bs⟩<|KM R
 rintro _ cM ⟨au,p,o,rfl,u,bp,aG⟩
 have h:=bA
 refine Jp<|Jq<|Js1 (κ:=au) [0] none [(0,2),(1,2),(2,2),(3,2),(5,2),(6,2),(7,2),(9,2),(4,0),(8,0),(10,2),(11,0),(12,1)] [] (by kernel_rfl) (by kernel_rfl) λcQ i=>Jn 2 R<|Ob h λcW aN h=>Jc3 R ah aN U69 Z127<|Jd3 R U127 R Z37<|Jn 2 R<|Ob h λcX aO h=>Jc3 R ai aO U31 Z37<|Jn 1 R ?_
 obtain⟨cl,bP,bK⟩:=((ah.stp (T3 f u i))).gSt aN
 obtain⟨cg,cz,ch,cA,rfl,cn,bw⟩:=Pair.un bP
 refine Jg R (Jc2 I37 R R<|hvC (λw' an=>bK w' an 1 _ R) R) ?_
 obtain⟨cj,cC,aI,bI⟩:=(ai.stp (T3 f u i)).gSl aO
 refine Jg R (Jc2 I37 R R<|hvC bI R)<|Ob h λcY aP h=>Jc3 R aI aP U37 Z2<|Jg R (Jc2 I2 R R<|hvC (aI.gInt aP) R)<|Ob h λb5 bW h=>Jr3 R C81 (eN (κ:=Mk au) (Ji3 bw) bW) ?_
 rintro _ b3 ⟨ct,rfl,bc⟩
 obtain⟨X,j,cv⟩:=Ji bc 8 R
 refine⟨(j.cl R),Jt1<|Jd<|Ob h λao h bC=>Jo3 [0,1,2,7,8,9,10] (λE L w'=>∃κ' O K,L=E/\Stp [3,5] X b3 κ' w'/\Oc E6 2 κ' w' 5 O K ao/\Bc κ' w' 3 Q 127 [.slice p C.length o,.slice O ao.length K]) ?_ ?_⟩
 revert h
 cases cr:b5
 refine JF λh=>Jy R<|Js ?_
 cases h
 exact Jw1 _ ⟨X,m,n,R,Jj3,(af.stp<|T5 g f u i j),(aG.stp<|i.tr j)⟩<|KM R
 refine JT λh=>Jx R<|Ja [2,1,2,1,1,2,1] R<|Jd3 R U127 R Z37 ?_
 have aJ:=aG.stp (i.tr j)
 refine Jb3 R I37 (aJ.ld 1 R R)<|Jn 1 R<|Jd4 (κ:=X) 10 [c] R Y37 bS R λb9 cd cD aY Y bd=>Tv<|Ob h λaX bX h=>Jy3 (κ:=aY) (E:=E6) 5 [] R Y37 bS R (af.stp<|T6 g f u i j Y) (Sl.srcP (bY _) bd.rdc) bU bX R λar ab cE ap aw be=>Tv<|Jd3 R U127 R Z37<|Ju3 (κ:=ap) 3 (off:=1) (vc:=[.slice ar aX.length ab]) (cs':=[.slice p C.length o,.slice ar aX.length ab]) R Z37 R (aJ.stp<|Y.tr aw) R λcF ax bg=>Tv<|Jo ?_
 cases h
 exact Jw1 _ ⟨ap,ar,ab,R,(T3 Y aw ax).wk R,(be.stp ax),bg⟩<|KM R
 rintro _ cS ⟨a4,O,K,rfl,aC,bt,bu⟩
 have h:=bC
 refine Jz<|Jp<|Jf3 R ?_
 have bQ:bM .i64 (c+1)=c+1:=wr1 bF (Jm2 q) bD
 rw[bQ]
 have q:=Jm2 q
 cases h
 exact Jz1 λa ha=>⟨k,_,Ja3 _,⟨a4,c+1,(C,ao),p,o,O,K,R,(T7 I g f u i j aC).wk R,(bp.stp<|T3 i j aC),bt,bu,by omega,by omega,am⟩,(ha.mm R)⟩
 rintro _ aV ⟨U,b,B,z,x,v,rfl,az,bl,bm,bn,rfl⟩
 have h:=yI bz
 refine Jp<|Jh3 [2,1,1,1,2] 1 R<|Jb4 tv R (Jc4 (haE bn.cells) I127 Z127 R)<|Jw3 (κ:=U) (E:=Pair.ep127) 6 [4,5] (parts:=[(0,.tmp 64)]) (cells:=[.slice B b.1.length z,.slice x b.2.length v]) (xs:=([(⟨b.1,b.2⟩:Pair)]:List Pair)) R Y69 dg R (Je4 ⟨[.slice B b.1.length z],[.slice x b.2.length v],Zl U aV [4],Zl U aV [5],R,Zl.sp (l1:=[4]) (l2:=[5]) R,Zl.sr (l1:=[4]) (l2:=[5]),⟨_,_,R,bl⟩,⟨_,_,R,bm⟩⟩) λb8 ca cG aZ ay bh=>Tv<|Ob h λb6 bZ h=>Jy3 (κ:=aZ) (E:=Pair.ep127) 2 [6] R Y69 dg R (aE.stp<|T4 G H az ay) bh.src (dG R) bZ R λa8 a7 cI a0 a6 bi=>Tv<|Jc 1 R<|Jz<|Jp<|Jf3 R ?_
 have bR:bM .i64 (e+1)=e+1:=wr1 bG (Jm2 s) bE
 rw[bR]
 have s:=Jm2 s
 cases h
 exact Jz1 λa ha=>⟨k,_,Ja3 _,⟨a0,e+1,b6,a8,a7,R,(T6 F G H az ay a6).wk R,bi,by omega,by omega,al⟩,(ha.mm R)⟩
 rintro _ cR ⟨a3,S,M,N,rfl,a5,bf,rfl⟩
 have h:=yI bB
 refine Jp<|Je3 R<|Ju<|Ja2 (l:=[.tmp 6]) V98 (Jp2 R R) R ?_
 cases h
 exact⟨a3,M,N,R,(bx.stp<|Z.tr a5),bf⟩
theorem sx {P X}{p0:(List Pair)}{a1 Y}{p1:(List Int)}{p2:Int}(Q:Rd Pair.rp κ w 0 P X p0) (J:Rd (Rp.int .i64) κ w 0 a1 Y p1){r:(List Int)}(h:lX p0 p1 p2=some r):Ret Tryz.prog 134 [.slice P p0.length X,.slice a1 p1.length Y,vi p2] w (Pvs E6 2 κ w r):=by
 unfold lX at h
 refine Jk3 κ F134 R N134 R λaK=>Je3 R<|Je [1,2] R<|Jx3 (κ:=κ) (E:=E6) 2 R Y37 bS R λao ar w1 ab z aC=>Tv<|Jb 1 R<|Je [1,2] R<|Jx3 (κ:=ab) (E:=E6) 3 R Y37 bS R λau am Z y q aI=>Tv<|Jb 1 R<|Jq<|Je3 R ?_
 have aN:(p1.length:Int)<=9223372036854775807:=J.len_le
 refine Ob h λW aQ aL=>?_
 clear h
 refine Jx1 (λL w'=>∃κ',∃g:(List Int)×(List Int),∃F G D C,L=[(7,.slice F g.1.length G),(8,.slice D g.2.length C)]/\Stp [2,3] y Z κ' w'/\Oc E6 2 κ' w' 2 F G g.1/\Oc E6 2 κ' w' 3 D C g.2/\W=cb g) ?_ ?_
 refine Jv<|Jp3 [0,1,2] (λk E L w'=>∃κ' b,∃c:(List Int)×(List Int),∃n j i m,L=(7,.slice n c.1.length j)::(8,.slice i c.2.length m)::(9,vi b)::E/\Stp [2,3] y Z κ' w'/\Oc E6 2 κ' w' 2 n j c.1/\Oc E6 2 κ' w' 3 i m c.2/\0<=b/\hV ((p1.length:Int)-b)=k/\cntM (jr p0 p1 p2) k b c=some W) ⟨_,_,⟨y,0,((([]:List Int):(List Int)),(([]:List Int):(List Int))),ao,ar,au,am,R,Jj3,(aC.stp q),aI,(by decide),(by simp),aQ⟩,(KM R)⟩ ?_
 rintro k _ bj ⟨M,b,c,n,j,i,m,rfl,p,H,I,aO,bc,h⟩
 rcases k with _ | k
 have K:=h;obtain⟨aY,h⟩:=cw (cb (eg c):(List Int)⊕(((List Int)×(List Int))⊕((List Int)×(List Int))))
 have e:decide (b<(p1.length:Int))=false:=Jo2 (by omega)
 refine Jq<|Jg3 [2,2,2,2] 2 R<|Jn3 R U37 R R<|Jb 1 R<|Jw2 R e<|Jc1<|Jt<|Jt ?_
 cases h
 have h:=K
 refine Jb1 ?_
 cases h
 exact Jw1 _ ⟨M,(c.1,c.2),n,j,i,m,R,p.wk R,H,I,R⟩<|KM R
 obtain⟨aY,h,K⟩:=BI h;unfold jr at h
 have e:decide (b<(p1.length:Int))=true:=Jn2 (by omega)
 refine Jq<|Jg3 [2,2,2,2] 2 R<|Jn3 R U37 R R<|Jb 1 R<|Jv2 R e<|Js<|Jp<|Jq<|Jv<|Jg3 [2,2,2,2,1,2,2,1,2,1] 3 R<|Ob h λbq S h=>Jc3 R J S U37 Z2 ?_
 have o:=J.stp (T3 z q p)
 refine Jb3 R I2 (o.gInt S)<|Ob h λbr T h=>Jc3 R Q T U69 Z127<|Jd3 R U127 R Z37 ?_
 obtain⟨ba,aR,aP⟩:=((Q.stp (T3 z q p))).gSt T
 obtain⟨a7,bg,a8,bh,rfl,bb,aJ⟩:=Pair.un aR
 refine Jb3 R I37 (λw' aS=>aP w' aS 1 _ R)<|Jn 1 R<|Ob h λa0 aU h=>Jr3 R C197 (nf (κ:=Mk M) (Ji3 aJ) aU) ?_
 rintro _ aZ ⟨be,rfl,ax⟩
 obtain⟨x,d,bf⟩:=Ji ax 4 R
 refine Tv<|Jd<|Ob h λf h aM=>Jo3 [0,1,2,9] (λE L w'=>∃κ' v t s u,L=(7,.slice v f.1.length t)::(8,.slice s f.2.length u)::E/\Stp [2,3] x aZ κ' w'/\Oc E6 2 κ' w' 2 v t f.1/\Oc E6 2 κ' w' 3 s u f.2) ?_ ?_
 revert h
 cases bd:a0
 refine JF λh=>Jy R<|Jh3 [2,2,2,2,1,1,1,2] 3 R<|Ob h λa3 V h=>Jc3 R o V U37 Z2<|Jb3 R I2 ((o.stp d).gInt V)<|Jd4 (κ:=x) 6 [a3] R Y37 bS R λa6 a4 bn af B aF=>Tv<|Ob h λbt aW h=>Jy3 (κ:=af) (E:=E6) 3 [] R Y37 bS R (I.stp<|d.tr B) (Sl.srcP (bY _) aF.rdc) bU aW R λal aw bo ag O aG=>Tv<|Jc 1 R ?_
 cases h
 exact Jw1 _ ⟨ag,n,j,al,aw,R,(B.tr O).wk R,(H.stp<|T3 d B O),aG⟩<|KM R
 refine JT λh=>Jx R<|Jh3 [2,2,2,2,1,1,1,2] 3 R<|Ob h λa2 U h=>Jc3 R o U U37 Z2<|Jb3 R I2 ((o.stp d).gInt U)<|Jd4 (κ:=x) 6 [a2] R Y37 bS R λa9 a5 bl ad A aD=>Tv<|Ob h λbs aV h=>Jy3 (κ:=ad) (E:=E6) 2 [] R Y37 bS R (H.stp<|d.tr A) (Sl.srcP (bY _) aD.rdc) bU aV R λan ap bm ae N aE=>Tv<|Jc 1 R ?_
 cases h
 exact Jw1 _ ⟨ae,an,ap,i,m,R,(A.tr N).wk R,aE,(I.stp<|T3 d A N)⟩<|KM R
 rintro _ bk ⟨ac,v,t,s,u,rfl,aj,aA,aB⟩
 have h:=aM
 refine Jz<|Jp<|Jf3 R ?_
 have aT:bM .i64 (b+1)=b+1:=wr1 aO (Jm2 e) aN
 rw[aT]
 have e:=Jm2 e
 cases h
 exact Jz1 λa ha=>⟨k,_,Ja3 _,⟨ac,b+1,(f.1,f.2),v,t,s,u,R,(T3 p d aj).wk R,aA,aB,by omega,by omega,K⟩,(ha.mm R)⟩
 rintro _ bi ⟨aa,g,F,G,D,C,rfl,ai,ay,az,rfl⟩
 have h:=yI aL
 refine Jp<|Jg3 [2,2,1,2] 2 R<|Ob h λbu aX h=>Jy3 (κ:=aa) (E:=E6) 2 [] R Y37 bS R ay (Sl.srcP (bY _) az.rdc) bU aX R λaq av bp ah ak aH=>Tv<|Jb 1 R<|Ju<|Ja2 (l:=[.tmp 6]) V134 (Jp2 R R) R ?_
 cases h
 exact⟨ah,aq,av,R,(aK.stp<|T4 z q ai ak),aH⟩
theorem uM {v u s x q p t z o y}{p0:l7Game}{a1 G}{p1:(List Bool)}(ad:Rd (Rp.int .i64) κ w 0 v u p0.owner) (A:Rd (Rp.int .i64) κ w 0 s x p0.prio) (ae:Rd (Rp.sl (Rp.int .i64)) κ w 0 q p p0.next) (af:Rd (Rp.sl (Rp.int .i64)) κ w 0 t z p0.prev) (ag:Rd (Rp.int .i64) κ w 0 o y p0.pick) (j:Rd Rp.bool κ w 0 a1 G p1){r:Int}(h:oO p0 p1=some r):Ret Tryz.prog 270 [.agg #[.slice v p0.owner.length u,.slice s p0.prio.length x,.slice q p0.next.length p,.slice t p0.prev.length z,.slice o p0.pick.length y],.slice a1 p1.length G] w (Pvi κ w r):=by
 unfold oO at h
 refine Jk3 κ F270 R N270 R λQ=>Je [1,2] R<|Js3 (κ:=κ) 2 R λac w1 g i P=>Tv<|Jb 1 R<|Je3 R<|Jq<|Je3 R ?_
 have U:(p1.length:Int)<=9223372036854775807:=j.len_le
 refine Ob h λD W T=>?_
 clear h
 refine Jx1 (λL w'=>∃κ' n,L=[(5,vi n)]/\Stp [] g w1 κ' w'/\D=cb n) ?_ ?_
 refine Jv<|Jp3 [1,2] (λk E L w'=>∃κ' b e,L=(5,vi e)::(6,vi b)::E/\Stp [] g w1 κ' w'/\0<=b/\hV ((p1.length:Int)-b)=k/\cntM (lb p0 p1) k b e=some D) ⟨_,_,⟨g,0,((-1):Int),R,Jj3,(by decide),(by simp),W⟩,(KM R)⟩ ?_
 rintro k _ aa ⟨f,b,e,rfl,d,V,ah,h⟩
 rcases k with _ | k
 have m:=h;obtain⟨Z,h⟩:=cw (cb (eg e):Int⊕((Int)⊕(Int)))
 have c:decide (b<(p1.length:Int))=false:=Jo2 (by omega)
 refine Jq<|Jg3 [2,2,2,2] 2 R<|Jn3 R U178 R R<|Jb 1 R<|Jw2 R c<|Jc1<|Jt<|Jt ?_
 cases h
 have h:=m
 refine Jb1 ?_
 cases h
 exact Jw1 _ ⟨f,e,R,d.wk R,R⟩<|KM R
 obtain⟨Z,h,m⟩:=BI h;unfold lb at h
 have c:decide (b<(p1.length:Int))=true:=Jn2 (by omega)
 refine Jq<|Jg3 [2,2,2,2] 2 R<|Jn3 R U178 R R<|Jb 1 R<|Jv2 R c<|Js<|Jp<|Jq<|Jv<|Jg3 [2,2,2,1] 2 R<|Ob h λab B h=>Jc3 R j B U178 Z4<|Jb3 R I4 ((j.stp<|i.tr d).gBool B)<|Jd<|Ob h λF h S=>Jo3 [1,2,6] (λE L w'=>∃κ',L=(5,vi F)::E/\Stp [] f aa κ' w') ?_ ?_
 revert h
 cases ai:ab
 refine JF λh=>Jy R<|Js ?_
 cases h
 exact Jw1 _ ⟨f,R,Jj3⟩<|KM R
 refine JT λh=>Jx R<|Jh3 [2,2,1,2,2,1,1,2] 1 R<|Jd3 R U210 R Z37<|Jb3 R I37 ((P.stp d).ld 1 R R)<|Jn 1 R<|Ob h λao C h=>Jc3 R A C U37 Z2<|Jb3 R I2 ((A.stp<|i.tr d).gInt C)<|Ob h λap Y h=>Jr3 R C247 (mu (κ:=Mk f) Y) ?_
 rintro _ am ⟨aj,rfl,O⟩
 obtain⟨I,N,ak⟩:=Ji O 3 R
 refine Tv<|Jc 1 R ?_
 cases h
 exact Jw1 _ ⟨I,R,N.wk R⟩<|KM R
 rintro _ al ⟨H,rfl,M⟩
 have h:=S
 refine Jz<|Jp<|Jf3 R ?_
 have X:bM .i64 (b+1)=b+1:=wr1 V (Jm2 c) U
 rw[X]
 have c:=Jm2 c
 cases h
 exact Jz1 λa ha=>⟨k,_,Ja3 _,⟨H,b+1,F,R,(d.tr M).wk R,by omega,by omega,m⟩,(ha.mm R)⟩
 rintro _ an ⟨J,n,rfl,K,rfl⟩
 have h:=yI T
 refine Jp<|Je3 R<|Ju<|Ja2 (l:=[.tmp 4]) V270 (Jp2 R R) R ?_
 cases h
 exact⟨J,R,(Q.stp<|i.tr K)⟩
theorem qS {v u s x q p t z o y}{p0:l7Game}{a1 N}{p1:(List Bool)}{p2:Int}(X:Rd (Rp.int .i64) κ w 0 v u p0.owner) (Y:Rd (Rp.int .i64) κ w 0 s x p0.prio) (B:Rd (Rp.sl (Rp.int .i64)) κ w 0 q p p0.next) (Z:Rd (Rp.sl (Rp.int .i64)) κ w 0 t z p0.prev) (aa:Rd (Rp.int .i64) κ w 0 o y p0.pick) (C:Rd Rp.bool κ w 0 a1 N p1){r:Int}(h:la p0 p1 p2=some r):Ret Tryz.prog 249 [.agg #[.slice v p0.owner.length u,.slice s p0.prio.length x,.slice q p0.next.length p,.slice t p0.prev.length z,.slice o p0.pick.length y],.slice a1 p1.length N,vi p2] w (Pvi κ w r):=by
 unfold la at h
 refine Jk3 κ F249 R N249 R λab=>Je [1,2] R<|Js3 (κ:=κ) 2 R λaq w1 i e W=>Tv<|Jb 1 R<|Je3 R<|Jq<|Je3 R<|Ob h λK ah ae=>?_
 clear h
 refine Jx1 (λL w'=>∃κ',∃n:Int×Int,L=[(7,vi n.1)]/\Stp [] i w1 κ' w'/\K=cb n) ?_ ?_
 refine Jv<|Jp3 [1,2,3] (λk E L w'=>∃κ',∃b:Int×Int,L=(7,vi b.1)::(8,vi b.2)::E/\Stp [] i w1 κ' w'/\cu (iD p0 p1 p2) k b=some K) ⟨_,_,⟨i,((0:Int),(0:Int)),R,Jj3,ah⟩,(KM R)⟩ ?_
 rintro k _ aj ⟨g,b,rfl,c,h⟩
 rcases k with _ | k
 cases h
 obtain⟨az,h,D⟩:=BI h;unfold iD at h
 refine Jq<|Jg3 [2,2,1,2,2,1,2,2] 1 R<|Jd3 R U210 R Z31 ?_
 have m:=W.stp c
 refine Jb3 R I31 (m.ld 2 R R)<|Jn 1 R<|Ob h λal F h=>Jc3 R B F U31 Z37 ?_
 have f:=B.stp (e.tr c)
 obtain⟨ao,aA,ar,af⟩:=f.gSl F
 refine Jb3 R I37 af<|Jn3 R U37 R R<|Jb 1 R ?_
 revert h
 cases au:decide (b.2<(al.length:Int))
 refine JF λh=>Jy R<|Jc1<|Jt<|Jt ?_
 cases h
 have h:=D
 refine Jb1 ?_
 cases h
 exact Jw1 _ ⟨g,(b.1,b.2),R,c.wk R,R⟩<|KM R
 refine JT λh=>Jx R<|Js<|Jp<|Jq<|Jv<|Je [2,1,2,2,1,2,2,1,2] R<|Jd3 R U210 R Z31<|Jb3 R I31 (m.ld 2 R R)<|Jn 1 R<|Ob h λaF G h=>Jc3 R f G U31 Z37 ?_
 obtain⟨ap,aB,A,ag⟩:=f.gSl G
 refine Jb3 R I37 ag<|Jn 1 R<|Ob h λaG H h=>Jc3 R A H U37 Z2<|Jb3 R I2 (A.gInt H)<|Jb 1 R<|Jg3 [2,2,2,1,2,1,2,2,1,2] 2 R<|Ob h λam I h=>Jc3 R C I U178 Z4<|Jb3 R I4 ((C.stp<|e.tr c).gBool I)<|Jn 1 R<|Ob h λJ h ac=>Jf4 [1,2,3,7,8] 37 J g aj [(5,1),(6,2),(7,2),(8,1),(9,2)] [] tv ?_ ?_
 revert h
 cases av:am
 refine JF λh=>Jz3 R<|Jn 2 R<|Jz3 R<|Jn 1 R ?_
 cases h
 exact Jg4 tv R
 have d:=(e.tr c)
 refine JT λh=>Jb4 tv R (Jc4 (haE m.cells) I210 Z210 R)<|Jn 2 R<|Ob h λaH ai h=>Jr3 R C269 (pp (κ:=Mk g) (p0:=p0) (Ji3<|X.stp d) (Ji3<|Y.stp d) (Ji3 f) (Ji3<|Z.stp d) (Ji3<|aa.stp d) ai) ?_
 rintro _ aC ⟨ax,rfl,V⟩
 obtain⟨an,S,ay⟩:=Ji V 3 R
 refine Tv<|Jn 1 R ?_
 cases h
 exact Jv1 _ tv ⟨R,_,S.wk R⟩<|KM R
 rintro _ ak _ ⟨rfl,j,T⟩
 have h:=ac
 refine Jd<|Ob h λM h ad=>Jo3 [1,2,3,8] (λE L w'=>∃κ',L=(7,vi M)::E/\Stp [] j ak κ' w') ?_ ?_
 revert h
 cases aw:J
 refine JF λh=>Jy R<|Js ?_
 cases h
 exact Jw1 _ ⟨j,R,Jj3⟩<|KM R
 refine JT λh=>Jx R<|Jf3 R ?_
 cases h
 exact Jw1 _ ⟨j,R,Jj3⟩<|KM R
 rintro _ aD ⟨O,rfl,U⟩
 have h:=ad
 refine Jz<|Jp<|Jf3 R ?_
 cases h
 exact Jz1 λa ha=>⟨k,_,Ja3 _,⟨O,(M,((IntKind.i64.wrap<|b.2+1):Int)),R,(T3 c T U).wk R,D⟩,(ha.mm R)⟩
 rintro _ aE ⟨P,n,rfl,Q,rfl⟩
 have h:=yI ae
 refine Jp<|Je3 R<|Ju<|Ja2 (l:=[.tmp 6]) V249 (Jp2 R R) R ?_
 cases h
 exact⟨P,R,(ab.stp<|e.tr Q)⟩
theorem lE {p0:Sig}  {r:Int}(h:eF p0=some r):Ret Tryz.prog 60 [.agg #[vi p0.In,vi p0.Out]] w (Pvi κ w r):=by
 unfold eF at h
 refine Jk3 κ F60 R N60 R λg=>Je [1,2] R<|Js3 (κ:=κ) 2 R λj w1 a c f=>Tv<|Jb 1 R<|Je [2,1,1,2] R<|Jd3 R U28 R Z2<|Jb3 R I2 (f.ld 0 R R)<|Ob h λo i h=>Jr3 R C62 (dI (κ:=Mk a) i) ?_
 rintro _ n ⟨k,rfl,e⟩
 obtain⟨b,d,m⟩:=Ji e 3 R
 refine Tv<|Jb 1 R<|Ju<|Ja2 (l:=[.tmp 2]) V60 (Jp2 R R) R ?_
 cases h
 exact⟨b,R,(g.stp<|c.tr d)⟩
theorem ft {m t}{p0:(List Int)}{c1_0:Int}{n}(f:Rd (Rp.int .i64) κ w 0 m t p0) (y:Bc κ w 0 n 2 [vi c1_0]){r:Int}(h:cF p0 c1_0=some r):Ret Tryz.prog 47 [.slice m p0.length t,.func (.func 217) #[] #[.pointer (some ⟨n,0,none⟩)]] w (Pvi κ w r):=by
 unfold cF at h
 refine Jk3 κ F47 R N47 R λo=>Je3 R<|Jq<|Jg3 [2,2,2] 1 R<|Jn3 R U37 R R<|Jb 1 R ?_
 have z:(p0.length:Int)<=9223372036854775807:=f.len_le
 refine Ob h λs B p=>?_
 clear h
 refine Jo3 [1] (λE L w'=>∃κ',L=E/\Stp [] κ w κ' w'/\s=cb ()) ?_ ?_
 refine Jv<|Jp3 [0,1,7] (λk E L w'=>∃κ' b,L=(8,vi b)::E/\Stp [] κ w κ' w'/\0<=b/\hV ((p0.length:Int)-b)=k/\cntM (cE p0 c1_0) k b ()=some s) ⟨_,_,⟨κ,0,R,Jj3,(by decide),(by simp),B⟩,(KM R)⟩ ?_
 rintro k _ O ⟨i,b,rfl,d,A,H,h⟩
 rcases k with _ | k
 have e:=h;obtain⟨F,h⟩:=cw (cb (eg ()):Int⊕((Unit)⊕(Unit)))
 have c:decide (b<(p0.length:Int))=false:=Jo2 (by omega)
 refine Je3 R<|Jq<|Jw2 R c<|Jc1<|Jt<|Jt ?_
 cases h
 have h:=e
 refine Jb1 ?_
 cases h
 exact Jw1 _ ⟨i,R,d.wk R,R⟩<|KM R
 obtain⟨F,h,e⟩:=BI h;unfold cE at h
 have c:decide (b<(p0.length:Int))=true:=Jn2 (by omega)
 refine Je3 R<|Jq<|Jv2 R c<|Js<|Jp<|Jq<|Jv<|Je3 R<|Jg3 [2,2,2,2,1,1] 3 R<|Ob h λP q h=>Jc3 R f q U37 Z2<|Jb3 R I2 ((f.stp d).gInt q)<|Ob h λG D h=>WO.callV R R R R R R R R C217 (ov (κ:=Mk i) ((y.stp d).map (mp [] 0) R R) D) ?_
 rintro _ M ⟨J,rfl,x⟩
 obtain⟨g,j,K⟩:=Ji x 2 R
 refine Tv<|Jd ?_
 revert h
 cases I:G
 refine JF λh=>Jy R<|Js<|Jz<|Jp<|Jf3 R ?_
 have C:bM .i64 (b+1)=b+1:=wr1 A (Jm2 c) z
 rw[C]
 have c:=Jm2 c
 cases h
 exact Jz1 λa ha=>⟨k,_,Ja3 _,⟨g,b+1,R,(d.tr j).wk R,by omega,by omega,e⟩,(ha.mm R)⟩
 refine JT λh=>Jx R<|Je3 R<|Ju<|Ja1<|Jw<|Jw ?_
 cases h
 obtain rfl:=Option.some.inj e
 have h:=yL p
 refine Ja1<|Jq2<|Jw<|Ja2 (l:=[.tmp 4]) V47 (Jp2 R R) R ?_
 cases h
 exact⟨g,R,(o.stp<|d.tr j)⟩
 rintro _ N ⟨u,rfl,v,rfl⟩
 have h:=yI p
 refine Jp<|Je3 R<|Ju<|Ja2 (l:=[.tmp 4]) V47 (Jp2 R R) R ?_
 cases h
 exact⟨u,R,(o.stp v)⟩
theorem qJ {p0:Sig}{u v x t}{p1:Clause}(S:Rd (Rp.int .i64) κ w 0 u v p1.A) (T:Rd (Rp.int .i64) κ w 0 x t p1.B){r:Bool}(h:kE p0 p1=some r):Ret Tryz.prog 128 [.agg #[vi p0.In,vi p0.Out],.agg #[vi p1.Kind,.slice u p1.A.length v,.slice x p1.B.length t]] w (Pvb κ w r):=by
 unfold kE at h
 refine Jk3 κ F128 R N128 R λA=>Je [1,1,2] R<|Js3 (κ:=κ) 2 R λal w1 E i y=>Tv<|Js3 (κ:=E) 3 R λam aI q d Q=>Tv<|Jb 1 R<|Jq<|Jq<|Js1 (κ:=q) [2,3] none [(0,2),(1,0),(2,2),(3,2),(4,2),(5,0),(6,2),(7,2),(8,2),(9,2),(10,0),(11,0),(12,1),(13,1),(14,2),(15,2),(16,2),(17,2),(18,0),(19,0),(20,1),(21,1),(22,2),(23,2)] [] (by kernel_rfl) (by kernel_rfl) λae c=>Jd3 R U67 R Z2 ?_
 have g:=Q.stp c
 refine Jg R (Jc2 I2 R R<|hvC (g.ld 0 R R) R)<|Jn 2 R<|Ob h λB h U=>Jf4 [2,3] 12 B q ae [(4,2),(5,0),(6,2),(7,2)] [(8,2),(9,2),(10,0),(11,0),(12,1),(13,1),(14,2),(15,2),(16,2),(17,2),(18,0),(19,0),(20,1),(21,1),(22,2),(23,2)] (Cl.refl _ _ _) ?_ ?_
 revert h
 cases an:decide (p1.Kind<1)
 refine JF λh=>Jd3 R U67 R Z2<|Jg R (Jc2 I2 R R<|hvC (g.ld 0 R R) R)<|Jn 2 R ?_
 cases h
 exact Jv1 _ (Cl.refl _ _ _) ⟨R,_,Jj3⟩<|KM R
 refine JT λh=>Jn 1 R<|Ja4 R<|Jn 2 R ?_
 cases h
 exact Jv1 _ (Cl.refl _ _ _) ⟨R,_,Jj3⟩<|KM R
 rintro _ af _ ⟨rfl,n,a⟩
 have h:=U
 refine Jn 1 R<|Ob h λC h V=>Jf4 [2,3] 20 C n af [(9,2),(10,0),(11,0),(12,1),(13,1),(14,2),(15,2)] [(16,2),(17,2),(18,0),(19,0),(20,1),(21,1),(22,2),(23,2)] (a.cl R) ?_ ?_
 revert h
 cases ao:B
 refine JF λh=>Jd3 R U67 R Z37<|Jg R (Jc2 I37 R R<|hvC (g.ld 1 R R) R)<|Jg R (Jc4 (haC (y.stp<|d.tr c).cells R) I28 Z28 R)<|Ob h λaL Y h=>Jr3 R C103 (gq (κ:=Mk n) (p0:=p0) Y) ?_
 rintro _ aE ⟨au,rfl,K⟩
 obtain⟨F,e,az⟩:=Ji K 4 R
 refine⟨((a.tr e).cl R),Ob h λaM Z h=>Jr3 R C195 (pU (κ:=Mk F) (Ji3<|S.stp<|T5 i d c a e) Z) ?_⟩
 rintro _ aF ⟨av,rfl,M⟩
 obtain⟨aj,j,aA⟩:=Ji M 6 R
 refine⟨((T3 a e j).cl R),Jn 2 R ?_⟩
 cases h
 exact Jv1 _ ((T3 a e j).cl R) ⟨R,_,(e.tr j).wk R⟩<|KM R
 refine JT λh=>Jn 1 R<|Ja4 R<|Ja4 R<|Jz3 R<|Jz3 R<|Jn 2 R ?_
 cases h
 exact Jv1 _ (a.cl R) ⟨R,_,Jj3⟩<|KM R
 rintro _ ag _ ⟨rfl,o,b⟩
 have h:=V
 refine Jn 1 R<|Ob h λD h W=>Jf4 [3] 28 D o ag [(17,2),(18,0),(19,0),(20,1),(21,1),(22,2),(23,2)] [] ((a.tr b).cl R) ?_ ?_
 revert h
 cases ap:C
 refine JF λh=>Jd3 R U67 R Z37<|Jg R (Jc2 I37 R R<|hvC (g.ld 2 R R) R)<|Jg R (Jc4 (haC (y.stp<|d.tr c).cells R) I28 Z28 R)<|Ob h λaN aa h=>Jr3 R C103 (gq (κ:=Mk o) (p0:=p0) aa) ?_
 rintro _ aG ⟨aw,rfl,N⟩
 obtain⟨G,f,aB⟩:=Ji N 4 R
 refine⟨((T3 a b f).cl R),Ob h λaO ab h=>Jr3 R C195 (pU (κ:=Mk G) (Ji3<|T.stp<|T6 i d c a b f) ab) ?_⟩
 rintro _ aH ⟨ax,rfl,O⟩
 obtain⟨ak,k,aC⟩:=Ji O 6 R
 refine⟨((T4 a b f k).cl R),Jn 2 R ?_⟩
 cases h
 exact Jv1 _ ((T4 a b f k).cl R) ⟨R,_,(f.tr k).wk R⟩<|KM R
 refine JT λh=>Jn 1 R<|Ja4 R<|Ja4 R<|Jz3 R<|Jz3 R<|Jn 2 R ?_
 cases h
 exact Jv1 _ ((a.tr b).cl R) ⟨R,_,Jj3⟩<|KM R
 rintro _ aJ _ ⟨rfl,p,m⟩
 have h:=W
 refine Jt1<|Jd ?_
 revert h
 cases aq:D
 refine JF λh=>Jy R<|Js<|Jp<|Je [2,1,1,2,2,1,2,2,2,2] R<|Jd3 R U67 R Z2 ?_
 have z:=g.stp (T3 a b m)
 refine Jb3 R I2 (z.ld 0 R R)<|Ob h λai ac h=>Jr3 R C196 (pS (κ:=Mk p) ac) ?_
 rintro _ ah ⟨ay,rfl,P⟩
 obtain⟨H,s,aD⟩:=Ji P 4 R
 refine Tv<|Jn 1 R<|Ob h λad h X=>Ju1 [(4,2),(5,1),(6,2),(7,2),(8,2)] [(9,2)] (λL w'=>L=[(37,.bool ad)]/\∃κ',Stp [] H ah κ' w') tv ?_ ?_
 revert h
 cases ar:ai
 refine JF λh=>Jd3 R U67 R Z37<|Jb3 R I37 ((z.stp s).ld 2 R R)<|Jn3 R U37 R R<|Jn 2 R ?_
 cases h
 exact Jg4 tv R
 refine JT λh=>Jn 1 R<|Jz3 R<|Jn 3 R ?_
 cases h
 exact Jg4 tv R
 rintro _ aK _ ⟨rfl,I,J⟩
 have h:=X
 refine Jb 1 R<|Ju<|Ja2 (l:=[.tmp 4]) V128 (Jp2 R R) R ?_
 cases h
 exact⟨I,R,(A.stp<|T8 i d c a b m s J)⟩
 refine JT λh=>Jx R<|Je3 R<|Ju<|Jw<|Ja2 (l:=[.tmp 4]) V128 (Jp2 R R) R ?_
 cases h
 exact⟨p,R,(A.stp<|T6 i d c a b m)⟩
theorem sF {z A y x}{p0:Clause}{a1 J}{p1:(List Int)}{p2:Int}(Q:Rd (Rp.int .i64) κ w 0 z A p0.A) (S:Rd (Rp.int .i64) κ w 0 y x p0.B) (q:Rd (Rp.int .i64) κ w 0 a1 J p1){r:Bool}(h:jM p0 p1 p2=some r):Ret Tryz.prog 153 [.agg #[vi p0.Kind,.slice z p0.A.length A,.slice y p0.B.length x],.slice a1 p1.length J,vi p2] w (Pvb κ w r):=by
 unfold jM at h
 refine Jk3 κ F153 R N153 R λC=>Je [1,2] R<|Js3 (κ:=κ) 2 R λah w1 n i P=>Tv<|Jb 1 R<|Jq<|Je3 R ?_
 have V:(p1.length:Int)<=9223372036854775807:=q.len_le
 refine Ob h λI X D=>?_
 clear h
 refine Jx1 (λL w'=>∃κ',L=[]/\Stp [] n w1 κ' w'/\I=cb ()) ?_ ?_
 refine Jv<|Jp3 [1,2,3] (λk E L w'=>∃κ' b,L=(7,vi b)::E/\Stp [] n w1 κ' w'/\0<=b/\hV ((p1.length:Int)-b)=k/\cntM (fG p0 p1 p2) k b ()=some I) ⟨_,_,⟨n,0,R,Jj3,(by decide),(by simp),X⟩,(KM R)⟩ ?_
 rintro k _ ad ⟨j,b,rfl,d,W,ai,h⟩
 rcases k with _ | k
 have m:=h;obtain⟨ab,h⟩:=cw (cb (eg ()):Bool⊕((Unit)⊕(Unit)))
 have g:decide (b<(p1.length:Int))=false:=Jo2 (by omega)
 refine Jq<|Jg3 [2,2,2,2] 2 R<|Jn3 R U37 R R<|Jb 1 R<|Jw2 R g<|Jc1<|Jt<|Jt ?_
 cases h
 have h:=m
 refine Jb1 ?_
 cases h
 exact Jw1 _ ⟨j,R,d.wk R,R⟩ KN
 obtain⟨ab,h,m⟩:=BI h;unfold fG at h
 have g:decide (b<(p1.length:Int))=true:=Jn2 (by omega)
 refine Jq<|Jg3 [2,2,2,2] 2 R<|Jn3 R U37 R R<|Jb 1 R<|Jv2 R g<|Js<|Jp<|Jq<|Jv<|Je3 R<|Jq<|Jg3 [2,2,2,2,2] 3 R<|Jn3 R U37 R R<|Jb 1 R<|Ob h λac h T=>Jo3 [1,2,3,7] (λE L w'=>∃κ',L=(8,vi ac)::E/\Stp [] j ad κ' w') ?_ ?_
 revert h
 cases aj:decide ((IntKind.i64.wrap (b+1))<(p1.length:Int))
 refine JF λh=>Jy R<|Js ?_
 cases h
 exact Jw1 _ ⟨j,R,Jj3⟩<|KM R
 refine JT λh=>Jx R<|Jf3 R ?_
 cases h
 exact Jw1 _ ⟨j,R,Jj3⟩<|KM R
 rintro _ aq ⟨s,rfl,e⟩
 have h:=T
 refine Jp<|Jq<|Js1 (κ:=s) [0,2] none [(0,2),(2,2),(3,2),(4,2),(1,0),(5,0),(6,1),(7,2),(8,2),(10,2),(11,2),(12,2),(9,0),(13,0),(14,1),(15,2),(16,2)] [] (by kernel_rfl) (by kernel_rfl) λar f=>Jd3 R U67 R Z37<|Jn 2 R<|Ob h λax F h=>Jc3 R q F U37 Z2 ?_
 have B:=P.stp (T3 d e f)
 refine Jg R (Jc2 I37 R R<|hvC (B.ld 1 R R) R) ?_
 have p:=q.stp (T4 i d e f)
 refine Jg R (Jc2 I2 R R<|hvC (p.gInt F) R)<|Ob h λaf Z h=>Jr3 R C81 (eN (κ:=Mk s) (Ji3<|Q.stp<|T4 i d e f) Z) ?_
 rintro _ ae ⟨am,rfl,N⟩
 obtain⟨t,c,ao⟩:=Ji N 3 R
 refine⟨(c.cl R),Jn 1 R<|Ob h λH h U=>Jf4 [1,2,3,7] 39 H t ae [(8,2),(10,2),(11,2),(12,2),(9,0),(13,0),(14,1),(15,2),(16,2)] [] (c.cl R) ?_ ?_⟩
 revert h
 cases ak:af
 refine JF λh=>Jn 4 R<|Ja4 R<|Ja4 R<|Jz3 R<|Jn 2 R ?_
 cases h
 exact Jv1 _ (c.cl R) ⟨R,_,Jj3⟩<|KM R
 refine JT λh=>Jd3 R U67 R Z37<|Jn 2 R<|Ob h λay G h=>Jc3 R p G U37 Z2<|Jg R (Jc2 I37 R R<|hvC (B.ld 2 R R) R)<|Jg R (Jc2 I2 R R<|hvC (p.gInt G) R)<|Ob h λaz aa h=>Jr3 R C81 (eN (κ:=Mk t) (Ji3<|S.stp<|T5 i d e f c) aa) ?_
 rintro _ au ⟨an,rfl,O⟩
 obtain⟨ag,o,ap⟩:=Ji O 5 R
 refine⟨((c.tr o).cl R),Jn 2 R ?_⟩
 cases h
 exact Jv1 _ ((c.tr o).cl R) ⟨R,_,o.wk R⟩<|KM R
 rintro _ av _ ⟨rfl,u,v⟩
 have h:=U
 refine Jt1<|Jd ?_
 revert h
 cases al:H
 refine JF λh=>Jy R<|Js<|Jz<|Jp<|Jf3 R ?_
 have Y:bM .i64 (b+1)=b+1:=wr1 W (Jm2 g) V
 rw[Y]
 have g:=Jm2 g
 cases h
 exact Jz1 λa ha=>⟨k,_,Ja3 _,⟨u,b+1,R,(T5 d e f c v).wk R,by omega,by omega,m⟩,(ha.mm R)⟩
 refine JT λh=>Jx R<|Je3 R<|Ju<|Ja1<|Jw<|Jw ?_
 cases h
 obtain rfl:=Option.some.inj m
 have h:=yL D
 refine Ja1<|Jq2<|Jw<|Ja2 (l:=[.tmp 6]) V153 (Jp2 R R) R ?_
 cases h
 exact⟨u,R,(C.stp<|T6 i d e f c v)⟩
 rintro _ aw ⟨K,rfl,M,rfl⟩
 have h:=yI D
 refine Jp<|Je3 R<|Ju<|Ja2 (l:=[.tmp 6]) V153 (Jp2 R R) R ?_
 cases h
 exact⟨K,R,(C.stp<|i.tr M)⟩
theorem ic {m s}{p0:(List Int)}{a1 t}{p1:(List Int)}(f:Rd (Rp.int .i64) κ w 0 m s p0) (y:Rd (Rp.int .i64) κ w 0 a1 t p1){r:Bool}(h:er p0 p1=some r):Ret Tryz.prog 155 [.slice m p0.length s,.slice a1 p1.length t] w (Pvb κ w r):=by
 unfold er at h
 refine Jk3 κ F155 R N155 R λn=>Je3 R<|Jq<|Je3 R ?_
 have z:(p0.length:Int)<=9223372036854775807:=f.len_le
 refine Ob h λq B o=>?_
 clear h
 refine Jx1 (λL w'=>∃κ',L=[]/\Stp [] κ w κ' w'/\q=cb ()) ?_ ?_
 refine Jv<|Jp3 [0,1] (λk E L w'=>∃κ' b,L=(5,vi b)::E/\Stp [] κ w κ' w'/\0<=b/\hV ((p0.length:Int)-b)=k/\cntM (fH p0 p1) k b ()=some q) ⟨_,_,⟨κ,0,R,Jj3,(by decide),(by simp),B⟩,(KM R)⟩ ?_
 rintro k _ O ⟨i,b,rfl,d,A,H,h⟩
 rcases k with _ | k
 have e:=h;obtain⟨F,h⟩:=cw (cb (eg ()):Bool⊕((Unit)⊕(Unit)))
 have c:decide (b<(p0.length:Int))=false:=Jo2 (by omega)
 refine Jq<|Jg3 [2,2,2,2] 2 R<|Jn3 R U37 R R<|Jb 1 R<|Jw2 R c<|Jc1<|Jt<|Jt ?_
 cases h
 have h:=e
 refine Jb1 ?_
 cases h
 exact Jw1 _ ⟨i,R,d.wk R,R⟩ KN
 obtain⟨F,h,e⟩:=BI h;unfold fH at h
 have c:decide (b<(p0.length:Int))=true:=Jn2 (by omega)
 refine Jq<|Jg3 [2,2,2,2] 2 R<|Jn3 R U37 R R<|Jb 1 R<|Jv2 R c<|Js<|Jp<|Jq<|Jv<|Jg3 [2,2,2,2,1,1] 3 R<|Ob h λP p h=>Jc3 R f p U37 Z2<|Jb3 R I2 ((f.stp d).gInt p)<|Ob h λG D h=>Jr3 R C81 (eN (κ:=Mk i) (Ji3<|y.stp d) D) ?_
 rintro _ M ⟨J,rfl,x⟩
 obtain⟨g,j,K⟩:=Ji x 2 R
 refine Tv<|Jd ?_
 revert h
 cases I:G
 refine JF λh=>Jy R<|Js<|Jz<|Jp<|Jf3 R ?_
 have C:bM .i64 (b+1)=b+1:=wr1 A (Jm2 c) z
 rw[C]
 have c:=Jm2 c
 cases h
 exact Jz1 λa ha=>⟨k,_,Ja3 _,⟨g,b+1,R,(d.tr j).wk R,by omega,by omega,e⟩,(ha.mm R)⟩
 refine JT λh=>Jx R<|Je3 R<|Ju<|Ja1<|Jw<|Jw ?_
 cases h
 obtain rfl:=Option.some.inj e
 have h:=yL o
 refine Ja1<|Jq2<|Jw<|Ja2 (l:=[.tmp 4]) V155 (Jp2 R R) R ?_
 cases h
 exact⟨g,R,(n.stp<|d.tr j)⟩
 rintro _ N ⟨u,rfl,v,rfl⟩
 have h:=yI o
 refine Jp<|Je3 R<|Ju<|Ja2 (l:=[.tmp 4]) V155 (Jp2 R R) R ?_
 cases h
 exact⟨u,R,(n.stp v)⟩
theorem mW {C ah}{p0:(List Int)}{a1 B}{c0:(List Int)}{F I J H}{c1:Machine}{c2:Int}{c3:Sig}{m K n M}(z:Rd (Rp.int .i64) κ w 0 C ah p0) (ay:Oc E6 2 κ w 2 a1 B c0) (X:Rd (Rp.sl (Rp.int .i64)) κ w 0 F I c1.Next) (Y:Rd (Rp.sl (Rp.int .i64)) κ w 0 J H c1.Out) (az:Bc κ w 3 m 37 [.slice a1 c0.length B]) (aA:Bc κ w 0 K 33 [.slice F c1.Next.length I,.slice J c1.Out.length H]) (aB:Bc κ w 4 n 2 [vi c2]) (aC:Bc κ w 0 M 28 [vi c3.In,vi c3.Out]){r:(List Int)×Int}(h:iS p0 c0 c1 c2 c3=some r):Ret Tryz.prog 212 [.slice C p0.length ah,.pointer (some ⟨m,0,none⟩),.pointer (some ⟨K,0,none⟩),.pointer (some ⟨n,0,none⟩),.pointer (some ⟨M,0,none⟩)] w (λv w'=>∃(κ':Col) (ae:Option Addr) (af:Nat),v= .tuple #[]/\Ent κ w κ' w'/\Oc E6 2 κ' w' 2 ae af r.1/\Bc κ' w' 3 m 37 [.slice ae r.1.length af]/\Bc κ' w' 4 n 2 [vi r.2]):=by
 unfold iS at h
 refine Jk3 κ F212 R N212 R λaD=>Jg3 [2,2,2] 1 R<|Jn3 R U37 R R<|Jb 1 R ?_
 have aF:(p0.length:Int)<=9223372036854775807:=z.len_le
 refine Ob h λag aJ aE=>?_
 clear h
 refine Jo3 [1,2,3,4] (λE L w'=>∃κ',∃o:(List Int)×Int,∃q s,L=E/\Stp [2,3,4] κ w κ' w'/\Oc E6 2 κ' w' 2 q s o.1/\Bc κ' w' 3 m 37 [.slice q o.1.length s]/\Bc κ' w' 4 n 2 [vi o.2]/\ag=cb o) ?_ ?_
 refine Jv<|Jp3 [1,2,3,4,8,9] (λk E L w'=>∃κ' b,∃f:(List Int)×Int,∃t p,L=(10,vi b)::E/\Stp [2,3,4] κ w κ' w'/\Oc E6 2 κ' w' 2 t p f.1/\Bc κ' w' 3 m 37 [.slice t f.1.length p]/\Bc κ' w' 4 n 2 [vi f.2]/\0<=b/\hV ((p0.length:Int)-b)=k/\cntM (gt p0 c1 c3) k b f=some ag) ⟨_,_,⟨κ,0,(c0,c2),a1,B,R,Jj3,ay,az,aB,(by decide),(by simp),aJ⟩,(KM R)⟩ ?_
 rintro k _ a0 ⟨u,b,f,t,p,rfl,g,N,O,P,aG,aV,h⟩
 rcases k with _ | k
 have A:=h;obtain⟨aN,h⟩:=cw (cb (eg f):((List Int)×Int)⊕(((List Int)×Int)⊕((List Int)×Int)))
 have j:decide (b<(p0.length:Int))=false:=Jo2 (by omega)
 refine Je3 R<|Jq<|Jw2 R j<|Jc1<|Jt<|Jt ?_
 cases h
 have h:=A
 refine Jb1 ?_
 cases h
 exact Jw1 _ ⟨u,(f.1,f.2),t,p,R,g.wk R,N,O,P,R⟩<|KM R
 obtain⟨aN,h,A⟩:=BI h;unfold gt at h
 have j:decide (b<(p0.length:Int))=true:=Jn2 (by omega)
 refine Je3 R<|Jq<|Jv2 R j<|Js<|Jp<|Jq<|Jv<|Je [2,1,2] R<|Ob h λaO Z h=>Jc3 R z Z U37 Z2<|Jb3 R I2 ((z.stp g).gInt Z)<|Jb 1 R<|Jq<|Js1 (κ:=u) [0,3,4] (some 16) [(1,2),(6,2),(12,2),(0,0),(2,0),(3,0),(4,2),(5,0),(7,2),(8,0),(9,0),(10,1),(11,2),(13,2),(14,1),(15,1)] [(16,1)] (by kernel_rfl) (by kernel_rfl) λa2 d=>Jd3 R U33 R Z31<|Jn 2 R ?_
 have Q:=O.stp d
 refine Jg R (Jc2 I37 R R<|hvC (Q.ld 0 R R) R) ?_
 have S:=aA.stp (g.tr d)
 refine Jg R (Jc2 I31 R R<|hvC (S.ld 1 R R) R) ?_
 have T:=P.stp d
 refine Jg R (Jc2 I2 R R<|hvC (T.ld 0 R R) R)<|Ob h λa9 aa h=>Jc3 R Y aa U31 Z37 ?_
 obtain⟨aT,aY,U,aH⟩:=(Y.stp (g.tr d)).gSl aa
 refine Jg R (Jc2 I37 R R<|hvC aH R)<|Ob h λaP ab h=>Jc3 R U ab U37 Z2<|Jg R (Jc2 I2 R R<|hvC (U.gInt ab) R)<|Jg R (Jc4 (haC (aC.stp<|g.tr d).cells R) I28 Z28 R)<|Ob h λaQ aL h=>Jr3 R C46 (jS (κ:=Mk u) (p0:=c3) aL) ?_
 rintro _ a3 ⟨aW,rfl,ao⟩
 obtain⟨ak,c,aX⟩:=Ji ao 5 R
 refine⟨(c.cl R),Jn 2 R<|Jd4 (κ:=ak) 7 [(IntKind.i64.wrap ((IntKind.i64.wrap<|aP * aQ)+aO))] R Y37 bS R λaR aS a4 al e ap=>⟨((c.tr e).cl R),Ob h λai aM h=>Jy3 (κ:=al) (E:=E6) 2 [] R Y37 bS R (N.stp<|T3 d c e) (Sl.srcP (bY _) ap.rdc) bU aM R λD G a5 x i aq=>⟨((T3 c e i).cl R),Jt1<|Jv3 (κ:=x) 3 (vc:=[.slice D ai.length G]) R Z37 R (Q.stp<|T3 c e i) R λa7 l ar=>Tv<|Jd<|Ja [2,1,1,2,1,2,2,1,1] R<|Jd3 R U33 R Z31<|Jb3 R I31 ((S.stp<|T4 c e i l).ld 0 R R) ?_⟩⟩⟩
 have V:=T.stp (T4 c e i l)
 refine Jb3 R I2 (V.ld 0 R R)<|Ob h λba ac h=>Jc3 R X ac U31 Z37 ?_
 obtain⟨aU,aZ,W,aI⟩:=(X.stp (T6 g d c e i l)).gSl ac
 refine Jb3 R I37 aI<|Jn 1 R<|Ob h λaj ad h=>Jc3 R W ad U37 Z2<|Jb3 R I2 (W.gInt ad)<|Jv3 (κ:=x) 4 (vc:=[vi aj]) R Z2 R V R λa8 y au=>Tv<|Jo<|Jz<|Jp<|Jf3 R ?_
 have aK:bM .i64 (b+1)=b+1:=wr1 aG (Jm2 j) aF
 rw[aK]
 have j:=Jm2 j
 cases h
 exact Jz1 λa ha=>⟨k,_,Ja3 _,⟨x,b+1,(ai,aj),D,G,R,(T7 g d c e i l y).wk R,(aq.stp<|l.tr y),(ar.stp y),au,by omega,by omega,A⟩,(ha.mm R)⟩
 rintro _ a6 ⟨am,o,q,s,rfl,an,av,aw,ax,rfl⟩
 have h:=yI aE
 refine DN.end0 V212 ?_
 cases h
 exact⟨am,q,s,R,(aD.stp an),av,aw,ax⟩
end Go.Proofs.YtleekpaohfpooaaGreat
