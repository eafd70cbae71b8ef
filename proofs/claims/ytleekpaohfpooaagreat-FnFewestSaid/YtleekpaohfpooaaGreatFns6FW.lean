/- The walks, part 6. By program. -/
import Derived.Test.YtleekpaohfpooaaGreatFns2FW
import Derived.Test.YtleekpaohfpooaaGreatFns3FW
set_option linter.unusedVariables false
set_option linter.unusedSimpArgs false
open Go.IntKind renaming wrap → cb
open Sum renaming inr → eg
open Int renaming toNat → n6
namespace Go.Proofs.YtleekpaohfpooaaGreat
open Go Go.Wk Go.Proofs
set_option maxRecDepth 100000
set_option maxHeartbeats 1000000
variable {w:World}{κ:Col}
theorem d7 {a c}{p0:(List Int)}{c1_0:Int}{b}(g:Rd (Rp.int .i64) κ w 0 a c p0) (i:Bc κ w 0 b 2 [vi c1_0]){r:Bool}(h:cq p0 c1_0=some r):Ret Tryz.prog 216 [.slice a p0.length c,.func (.func 217) #[] #[.pointer (some ⟨b,0,none⟩)]] w (Pvb κ w r):=by
 unfold cq at h
 refine Jk3 κ F216 R N216 R λhE=>Je3 R<|Jg3 [2,2,1,2,2] 2 R<|Ob h λn j h=>Jr3 R C47 (eD (κ:=Mk κ) (Ji3 g) (i.map (mp [] 0) R R) j) ?_
 rintro _ w1 ⟨k,rfl,f⟩
 obtain⟨d,e,m⟩:=Ji f 2 R
 refine Tv<|Jb 2 R<|Ju<|Ja2 (l:=[.tmp 4]) V216 (Jp2 R R) R ?_
 cases h
 exact⟨d,R,(hE.stp e)⟩
theorem rC {bp b8}{p0:(List (List Int))}{a1 b9}{p1:(List Bool)}(N:Rd (Rp.sl (Rp.int .i64)) κ w 0 bp b8 p0) (aj:Rd Rp.bool κ w 0 a1 b9 p1){r:(List (List Int))}(h:kV p0 p1=some r):Ret Tryz.prog 164 [.slice bp p0.length b8,.slice a1 p1.length b9] w (λv w'=>∃(κ':Col) (b6:Option Addr) (b7:Nat),v= .slice b6 r.length b7/\Ent κ w κ' w'/\Oc (Ep.fz (Rp.sl (Rp.int .i64))) 37 κ' w' 2 b6 b7 r):=by
 unfold kV at h
 refine Jk3 κ F164 R N164 R λhE=>Je [1,2] R<|Js3 (κ:=κ) 2 R λcW w1 cl M aX=>Tv<|Jb 1 R<|Jg3 [2,2,1,2] 1 R<|Jn3 R U31 R R<|Ob h λP en h=>Jl1 (κ:=cl) (E:=(Ep.own E6 2)) (z:=(([]:List Int):(List Int))) 3 R R R R R R R Y31 bT R R R R R (λ_ _ _=>⟨none,0,R,Ow.nil⟩) (Ju2 en) λad af cf aN t dC=>Tv<|Jb 1 R<|Jq<|Jg3 [2,2,2] 1 R<|Jn3 R U31 R R<|Jb 1 R ?_
 have dU:(p0.length:Int)<=9223372036854775807:=N.len_le
 refine Ob h λb3 ea dH=>?_
 clear h
 refine Jo3 [0,3,5] (λE L w'=>∃κ',∃an:(List<|List Int),L=E/\Stp [3,5] aN cf κ' w'/\Oc (Ep.own E6 2) 37 κ' w' 3 ad af an/\P.length=an.length/\b3=eg an) ?_ ?_
 refine Jv<|Jp3 [0,3,5,21,22] (λk E L w'=>∃κ' m,∃O:(List<|List Int),L=(23,vi m)::E/\Stp [3,5] aN cf κ' w'/\Oc (Ep.own E6 2) 37 κ' w' 3 ad af O/\P.length=O.length/\0<=m/\n6 ((p0.length:Int)-m)=k/\cntM (eJ p0 p1) k m O=some b3) ⟨_,_,⟨aN,0,P,R,Jj3,dC,R,(by decide),(by simp),ea⟩,(KM R)⟩ ?_
 rintro k _ cc ⟨av,m,O,rfl,ab,bB,bK,dY,e2,h⟩
 rcases k with _ | k
 have a3:=h;obtain⟨ex,h⟩:=cn (eg (Sum.inl O):(List (List Int))⊕(((List (List Int)))⊕((List (List Int)))))
 have X:decide (m<(p0.length:Int))=false:=Jo2 (by omega)
 refine Je3 R<|Jq<|Jw2 R X<|Jc1<|Jt<|Jt ?_
 cases h
 have h:=a3
 refine Jb1 ?_
 cases h
 exact Jw1 _ ⟨av,O,R,ab.wk R,bB,bK,R⟩<|KM R
 obtain⟨ex,h,a3⟩:=BI h;unfold eJ at h
 have X:decide (m<(p0.length:Int))=true:=Jn2 (by omega)
 refine Je3 R<|Jq<|Jv2 R X<|Js<|Jp<|Jq<|Jv<|Jg3 [2,2,1,2,2] 1 R<|Ob h λap bN h=>Jc3 R N bN U31 Z37 ?_
 obtain⟨eU,fn,aW,dZ⟩:=(N.stp (T3 M t ab)).gSl bN
 refine Jb3 R I37 dZ<|Jb 2 R<|Jg3 [2,2,2] 1 R<|Jn3 R U37 R R<|Jb 1 R ?_
 have dT:(ap.length:Int)<=9223372036854775807:=aW.len_le
 refine Ob h λb4 ed dP=>?_
 clear h
 refine Jo3 [0,3,5,21,22,23] (λE L w'=>∃κ',∃ao:(List<|List Int),L=E/\Stp [3,5] av cc κ' w'/\Oc (Ep.own E6 2) 37 κ' w' 3 ad af ao/\P.length=ao.length/\b4=eg ao) ?_ ?_
 refine Jv<|Jp3 [0,3,5,6,21,22,23,28,29] (λk E L w'=>∃κ' u,∃aa:(List<|List Int),L=(30,vi u)::E/\Stp [3,5] av cc κ' w'/\Oc (Ep.own E6 2) 37 κ' w' 3 ad af aa/\P.length=aa.length/\0<=u/\n6 ((ap.length:Int)-u)=k/\cntM (iq p1 m ap) k u aa=some b4) ⟨_,_,⟨av,0,O,R,Jj3,bB,bK,(by decide),(by simp),ed⟩,(KM R)⟩ ?_
 rintro k _ eB ⟨bg,u,aa,rfl,ac,aG,am,dX,e1,h⟩
 rcases k with _ | k
 have a4:=h;obtain⟨ew,h⟩:=cn (eg (Sum.inl aa):(List (List Int))⊕(((List (List Int)))⊕((List (List Int)))))
 have W:decide (u<(ap.length:Int))=false:=Jo2 (by omega)
 refine Je3 R<|Jq<|Jw2 R W<|Jc1<|Jt<|Jt ?_
 cases h
 have h:=a4
 refine Jb1 ?_
 cases h
 exact Jw1 _ ⟨bg,aa,R,ac.wk R,aG,am,R⟩<|KM R
 obtain⟨ew,h,a4⟩:=BI h;unfold iq at h
 have W:decide (u<(ap.length:Int))=true:=Jn2 (by omega)
 refine Je3 R<|Jq<|Jv2 R W<|Js<|Jp<|Jq<|Jv<|Je [2,1,2] R<|Ob h λfW bO h=>Jc3 R aW bO U37 Z2<|Jb3 R I2 ((aW.stp ac).gInt bO)<|Jb 1 R<|Je [1,2,2,1,2,1,2,2,1,2] R ?_
 have bG:=aX.stp (T3 t ab ac)
 refine Jb3 R I178 (bG.ld 0 R R)<|Jn 1 R<|Ob h λeF bP h=>Jc3 R aj bP U178 Z4 ?_
 have aY:=aj.stp (T4 M t ab ac)
 refine Jb3 R I4 (aY.gBool bP)<|Jn 1 R<|Ob h λb0 h dQ=>Jf4 [0,3,5,6,9,21,22,23,28,29,30] 43 b0 bg eB [(5,1),(6,2),(7,2),(8,1),(9,2)] [] tv ?_ ?_
 revert h
 cases fb:eF
 refine JF λh=>Jz3 R<|Jn 2 R<|Jz3 R<|Jn 1 R ?_
 cases h
 exact Jg4 tv R
 refine JT λh=>Jb3 R I178 (bG.ld 0 R R)<|Jn 1 R<|Ob h λfX bQ h=>Jc3 R aY bQ U178 Z4<|Jb3 R I4 (aY.gBool bQ)<|Jn 1 R ?_
 cases h
 exact Jg4 tv R
 rintro _ eC _ ⟨rfl,aM,aO⟩
 have h:=dQ
 refine Jd<|Ob h λba h dR=>Jo3 [0,3,5,6,21,22,23,28,29,30] (λE L w'=>∃κ',L=E/\Stp [3,5] aM eC κ' w'/\Oc (Ep.own E6 2) 37 κ' w' 3 ad af ba/\P.length=ba.length) ?_ ?_
 revert h
 cases fe:b0
 refine JF λh=>Jy R<|Js ?_
 cases h
 exact Jw1 _ ⟨aM,R,Jj3,(aG.stp aO),am⟩<|KM R
 refine JT λh=>Jx R<|Jh3 [2,2,2,2,2,1,2,1,1,2,1] 4 R<|Ob h λfZ a5 h=>Jf R (Jf2 aG.rdc a5 U31 Z37 R R am R) ?_
 have bH:=aG.stp aO
 obtain⟨eV,fo,eZ,bJ⟩:=bH.rdc.gSl a5
 refine Jb3 R I37 bJ<|Jn 1 R<|Jd4 (κ:=aM) 4 [m] R Y37 a8 R λeN eS fJ eM aP dx=>Tv<|?_
 have bI:=bH.stp aP
 obtain⟨cy,bn,dy,dz⟩:=bI.borrow a5 (bJ _ (Stp.ag aP R)) 5 R R
 refine Ob h λf0 eo h=>Jy3 (κ:=cy) (E:=E6) 5 [] R Y37 a8 R dy (Sl.srcP (co _) (dx.stp bn).rdc) bZ eo R λeP eR fK cz bo dA=>Tv<|Ob h λf1 ep h=>Jf R (Jf2 bI.rdc ep U31 Z37 R R am R)<|Ob h λeH bW h=>WO.stH (κ:=cz) (E:=(Ep.own E6 2)) 3 [5] R R R R R R R R Z37 R ⟨_,_,R,dA⟩ R R (dz.stp bo) bW λfL cA cL dB=>Tv<|?_
 have d9:P.length=eH.length:=am.trans (Jt2 bW).2.2.2.symm
 refine Jo ?_
 cases h
 exact Jw1 _ ⟨cA,R,(T4 aP bn bo cL).wk R,dB,d9⟩<|KM R
 rintro _ fI ⟨cx,rfl,cK,dw,d8⟩
 have h:=dR
 refine Jz<|Jp<|Jf3 R ?_
 have ef:cb .i64 (u+1)=u+1:=wr1 dX (Jm2 W) dT
 rw[ef]
 have W:=Jm2 W
 cases h
 exact Jz1 λa ha=>⟨k,_,Ja3 _,⟨cx,u+1,ba,R,(T3 ac aO cK).wk R,dw,d8,by omega,by omega,a4⟩,(ha.mm R)⟩
 rintro _ fH ⟨cw,ao,rfl,cJ,dv,d7,rfl⟩
 have h:=yI dP
 refine Jz<|Jp<|Jf3 R ?_
 have eh:cb .i64 (m+1)=m+1:=wr1 dY (Jm2 X) dU
 rw[eh]
 have X:=Jm2 X
 cases h
 exact Jz1 λa ha=>⟨k,_,Ja3 _,⟨cw,m+1,ao,R,(ab.tr cJ).wk R,dv,d7,by omega,by omega,a3⟩,(ha.mm R)⟩
 rintro _ fr ⟨ch,an,rfl,K,c9,d3,rfl⟩
 have h:=yI dH
 refine Jp<|Jg3 [2,2,1,1,1] 1 R<|Jn3 R U31 R R<|Ob h λaq eq h=>Jl1 (κ:=ch) (E:=Ep.bool) (z:=(false:Bool)) 4 R R R R R R R Y178 dI R R R R R (λ_ _ _=>R) (Ju2 eq) λaE az fM cB H dD=>Tv<|Jt3 (κ:=cB) 5 R X178 R λcU fN bh C dE=>Tv<|Jv3 (κ:=bh) 5 (vc:=[.slice aE aq.length az]) R Z178 R dE R λfO D aZ=>Tv<|Jd<|Je [1,1,1] R<|Jx3 (κ:=bh) (E:=E6) 6 R Y37 a8 R λbs bt fP cC j dF=>Tv<|Jt3 (κ:=cC) 7 R X37 R λaT fQ bi f dG=>Tv<|Jv3 (κ:=bi) 7 (vc:=[.slice bs ([]:List Int).length bt]) R Z37 R dG R λfR g c3=>Tv<|Jd<|Je [1] R<|Jt3 (κ:=bi) 8 R X226 R λcV fp au d c4=>Tv<|Jd<|Je [2,1] R<|Jf R (js (first:=[]) (captured:=[.tmp 10,.tmp 3,.tmp 12]) R R R ⟨_,R⟩)<|Jv3 (κ:=au) 8 (vc:=[.func (.func 218) #[] #[.pointer (some ⟨cU,0,none⟩),.pointer (some ⟨cW,0,none⟩),.pointer (some ⟨cV,0,none⟩)]]) R Z226 R c4 R λca e bu=>Tv<|Jd<|Jq<|Jg3 [2,2,2] 1 R<|Jn3 R U31 R R<|Jb 1 R ?_
 have dS:(p0.length:Int)<=9223372036854775807:=N.len_le
 refine Ob h λb5 eb dJ=>?_
 clear h
 refine Jo3 [0,5,10,11,12] (λE L w'=>∃κ',∃I:(List Int)×(List Bool),∃aQ aR,L=E/\Stp [4,6,7,11,12,13] au ca κ' w'/\Oc E6 2 κ' w' 6 aQ aR I.1/\Oc Ep.bool 4 κ' w' 4 aE az I.2/\aq.length=I.2.length/\Bc κ' w' 7 aT 37 [.slice aQ I.1.length aR]/\b5=eg I) ?_ ?_
 refine Jv<|Jp3 [0,3,5,10,11,12,62] (λk E L w'=>∃κ' x,∃F:(List Int)×(List Bool),∃ae ag,L=(63,vi x)::E/\Stp [4,6,7,11,12,13] au ca κ' w'/\Oc E6 2 κ' w' 6 ae ag F.1/\Oc Ep.bool 4 κ' w' 4 aE az F.2/\aq.length=F.2.length/\Bc κ' w' 7 aT 37 [.slice ae F.1.length ag]/\0<=x/\n6 ((p0.length:Int)-x)=k/\cntM (fY p0 p1) k x F=some b5) ⟨_,_,⟨au,0,((([]:List Int):(List Int)),aq),bs,bt,R,Jj3,(dF.stp<|T4 f g d e),(dD.stp<|T7 C D j f g d e),R,(c3.stp<|d.tr e),(by decide),(by simp),eb⟩,(KM R)⟩ ?_
 rintro k _ ey ⟨bc,x,F,ae,ag,rfl,G,aU,ah,ak,aV,dW,e0,h⟩
 rcases k with _ | k
 have a0:=h;obtain⟨ev,h⟩:=cn (eg (Sum.inl F):(List (List Int))⊕(((List Int)×(List Bool))⊕((List Int)×(List Bool))))
 have V:decide (x<(p0.length:Int))=false:=Jo2 (by omega)
 refine Je3 R<|Jq<|Jw2 R V<|Jc1<|Jt<|Jt ?_
 cases h
 have h:=a0
 refine Jb1 ?_
 cases h
 exact Jw1 _ ⟨bc,(F.1,F.2),ae,ag,R,G.wk R,aU,ah,ak,aV,R⟩<|KM R
 obtain⟨ev,h,a0⟩:=BI h;unfold fY at h
 have V:decide (x<(p0.length:Int))=true:=Jn2 (by omega)
 refine Je3 R<|Jq<|Jv2 R V<|Js<|Jp<|Jq<|Jv<|Je3 R<|Je [1,2,2,1,2,1,2,2,1,2,2] R ?_
 have bw:=aX.stp (T11 t K H C D j f g d e G)
 refine Jb3 R I178 (bw.ld 0 R R)<|Jn 1 R<|Ob h λeG bR h=>Jc3 R aj bR U178 Z4 ?_
 have bx:=aj.stp (T12 M t K H C D j f g d e G)
 refine Jb3 R I4 (bx.gBool bR)<|Jn 1 R<|Ob h λb1 h dK=>Jf4 [0,3,5,10,11,12,13,62,63] 76 b1 bc ey [(5,1),(6,2),(7,2),(8,1),(9,2),(10,2)] [] tv ?_ ?_
 revert h
 cases e5:eG
 refine JF λh=>Jz3 R<|Jn 2 R<|Jz3 R<|Jn 2 R ?_
 cases h
 exact Jg4 tv R
 refine JT λh=>Jb3 R I178 ((aZ.stp<|T6 j f g d e G).ld 0 R R)<|Jn 1 R<|Ob h λf2 bS h=>Jf R (Jf2 ah.rdc bS U178 Z4 R R ak R)<|Jb3 R I4 (ah.rdc.gBool bS)<|Jn 2 R ?_
 cases h
 exact Jg4 tv R
 rintro _ ez _ ⟨rfl,aI,i⟩
 have h:=dK
 refine Jd<|Ob h λY h dL=>Jo3 [0,3,5,10,11,12,62,63] (λE L w'=>∃κ' aB ay,L=E/\Stp [4,6,7,11,12,13] aI ez κ' w'/\Oc E6 2 κ' w' 6 aB ay Y.1/\Oc Ep.bool 4 κ' w' 4 aE az Y.2/\aq.length=Y.2.length/\Bc κ' w' 7 aT 37 [.slice aB Y.1.length ay]) ?_ ?_
 revert h
 cases e6:b1
 refine JF λh=>Jy R<|Js ?_
 cases h
 exact Jw1 _ ⟨aI,ae,ag,R,Jj3,(aU.stp i),(ah.stp i),ak,(aV.stp i)⟩<|KM R
 refine JT λh=>Jx R<|Ja [1,2,2,2,1] R ?_
 have bz:=bu.stp (G.tr i)
 refine Jb3 R I226 (bz.ld 0 R R)<|Jn 2 R<|Jf R (js (first:=[]) (captured:=[.tmp 11]) R R R ⟨_,R⟩)<|Ob h λf3 er h=>WO.callV R R R R R R R R C218 (fc _ (κ:=λb=>mp [(6,2),(4,3),(7,4)] 0<|aI b) (Jl2 (N.stp<|T13 M t K H C D j f g d e G i) (mp [(6,2),(4,3),(7,4)] 0) R R) ((aU.stp i).map (mp [(6,2),(4,3),(7,4)] 0) R R) ((ah.stp i).map (mp [(6,2),(4,3),(7,4)] 0) R R) (Jl2 (bx.stp i) (mp [(6,2),(4,3),(7,4)] 0) R R) ((aV.stp i).map (mp [(6,2),(4,3),(7,4)] 0) R R) (Bc.cast ((aZ.stp<|T7 j f g d e G i).map (mp [(6,2),(4,3),(7,4)] 0) R R) (by simp only[ak])) ((bw.stp i).map (mp [(6,2),(4,3),(7,4)] 0) R R) (bz.map (mp [(6,2),(4,3),(7,4)] 0) R R) er) ?_
 rintro _ ft ⟨ff,cP,cR,rfl,cX,da,db,d2,dc⟩
 obtain⟨cj,cE,a6⟩:=Ji cX 9 R
 refine Tv<|Jo ?_
 cases h
 exact Jw1 _ ⟨(λb=>ren [(11,6),(12,4),(13,7)]<|cj b),cP,cR,R,(Jy2 (cE.wk R) [(11,6),(12,4),(13,7)] R),((da.mx (bX _) a6 R (R:9+2=11)).map (ren [(11,6),(12,4),(13,7)]) R R),((db.mx dV a6 R (R:9+3=12)).map (ren [(11,6),(12,4),(13,7)]) R R),(ak.trans d2),((dc.mx a6 R (R:9+4=13)).map (ren [(11,6),(12,4),(13,7)]) R R)⟩<|KM R
 rintro _ fs ⟨ci,aB,ay,rfl,cD,c6,c7,d1,c8⟩
 have h:=dL
 refine Jz<|Jp<|Jf3 R ?_
 have ee:cb .i64 (x+1)=x+1:=wr1 dW (Jm2 V) dS
 rw[ee]
 have V:=Jm2 V
 cases h
 exact Jz1 λa ha=>⟨k,_,Ja3 _,⟨ci,x+1,(Y.1,Y.2),aB,ay,R,(T3 G i cD).wk R,c6,c7,d1,c8,by omega,by omega,a0⟩,(ha.mm R)⟩
 rintro _ fq ⟨cg,I,aQ,aR,rfl,J,bv,eX,e3,c5,rfl⟩
 have h:=yI dJ
 refine Jp<|Jg3 [2,2,1,1] 1 R<|Jn3 R U31 R R<|Ob h λaH es h=>Jl1 (κ:=cg) (E:=Ep.bool) (z:=(false:Bool)) 9 R R R R R R R Y178 dI R R R R R (λ_ _ _=>R) (Ju2 es) λar aS fu bd y dd=>Tv<|Jv3 (κ:=bd) 5 (vc:=[.slice ar aH.length aS]) R Z178 R (aZ.stp<|T7 j f g d e J y) R λfv A de=>Tv<|Jd<|Je [1,2] R<|Jx3 (κ:=bd) (E:=(Ep.fz<|Rp.sl<|Rp.int .i64)) 10 R Y31 bT R λcM cS cd aJ p dg=>Tv<|Jb 1 R<|Jq<|Je [1,2,2,2] R ?_
 have bA:=c5.stp (T3 y A p)
 refine Jb3 R I37 (bA.ld 0 R R)<|Jn3 R U37 R R<|Jb 2 R<|Ob h λb2 ec dM=>?_
 clear h
 refine Jx1 (λL w'=>∃κ',∃Z:(List<|List Int)×Int×(List Bool),∃aC ax,L=[(14,.slice aC Z.1.length ax)]/\Stp [9,10,11,12,15,16,20,21] aJ cd κ' w'/\Oc (Ep.fz<|Rp.sl<|Rp.int .i64) 37 κ' w' 10 aC ax Z.1/\Oc Ep.bool 4 κ' w' 9 ar aS Z.2.2/\aH.length=Z.2.2.length/\b2=eg Z) ?_ ?_
 refine Jv<|Jp3 [0,5,10,11,12] (λk E L w'=>∃κ',∃c:(List<|List Int)×Int×(List Bool),∃U T,L=(14,.slice U c.1.length T)::(15,vi c.2.1)::E/\Stp [9,10,11,12,15,16,20,21] aJ cd κ' w'/\Oc (Ep.fz<|Rp.sl<|Rp.int .i64) 37 κ' w' 10 U T c.1/\Oc Ep.bool 4 κ' w' 9 ar aS c.2.2/\aH.length=c.2.2.length/\bU (df p0 p1 an I) k c=some b2) ⟨_,_,⟨aJ,((([]:List (List Int)):(List<|List Int)),((IntKind.i64.wrap ((I.1.length:Int)-1)):Int),aH),cM,cS,R,Jj3,dg,(dd.stp<|A.tr p),R,ec⟩,(KM R)⟩ ?_
 rintro k _ fx ⟨aK,c,U,T,rfl,o,aF,ai,al,h⟩
 rcases k with _ | k
 cases h
 obtain⟨fl,h,a2⟩:=BI h;unfold df at h
 refine Jq<|Je3 R ?_
 revert h
 cases e7:decide (0<=c.2.1)
 refine JF λh=>Jy R<|Jc1<|Jt<|Jt ?_
 cases h
 have h:=a2
 refine Jb1 ?_
 cases h
 exact Jw1 _ ⟨aK,(c.1,c.2.1,c.2.2),U,T,R,o.wk R,aF,ai,al,R⟩<|KM R
 refine JT λh=>Jx R<|Js<|Jp<|Jq<|Jv<|Je [1,2,2,1,2] R<|Jb3 R I37 ((bA.stp o).ld 0 R R)<|Jn 1 R<|Ob h λf4 bV h=>Jc3 R bv.rdc bV U37 Z2<|Jb3 R I2 ((bv.stp<|T4 y A p o).rdc.gInt bV)<|Jb 1 R<|Jq<|Je [1,2,2,1] R ?_
 have bC:=de.stp (p.tr o)
 refine Jb3 R I178 (bC.ld 0 R R)<|Jn 1 R<|Ob h λeD bL h=>Jf R (Jf2 ai.rdc bL U178 Z4 R R al R)<|Jb3 R I4 (ai.rdc.gBool bL)<|Jd ?_
 revert h
 cases e8:eD
 refine JF λh=>Jy R<|Js<|Jp<|Je [1,1,1] R<|Jx3 (κ:=aK) (E:=E6) 11 R Y37 a8 R λcQ cN fy cm B di=>Tv<|Jt3 (κ:=cm) 12 R X37 R λeW fz be q dj=>Tv<|Jv3 (κ:=be) 12 (vc:=[.slice cQ ([]:List Int).length cN]) R Z37 R dj R λfA s dk=>Tv<|Jd<|Je [1,2,2,2,1] R ?_
 have bD:=bu.stp (T8 J y A p o B q s)
 have bj:=(T3 B q s)
 refine Jb3 R I226 (bD.ld 0 R R)<|Jn 2 R<|Jf R (js (first:=[]) (captured:=[.tmp 17]) R R R ⟨_,R⟩)<|Ob h λbb ei h=>WO.callV R R R R R R R R C218 (Ret.cast (by simp only[d3,List.cons_append,List.nil_append])<|fd _ (κ:=λb=>mp [(11,2),(9,3),(12,4)] 0<|be b) (Jl2 (c9.stp<|T16 H C D j f g d e J y A p o B q s).rdc (mp [(11,2),(9,3),(12,4)] 0) R R) ((di.stp<|q.tr s).map (mp [(11,2),(9,3),(12,4)] 0) R R) ((ai.stp bj).map (mp [(11,2),(9,3),(12,4)] 0) R R) (Jl2 (aj.stp<|M.tr<|t.tr<|K.tr<|H.tr<|C.tr<|D.tr<|j.tr<|f.tr<|g.tr<|d.tr<|e.tr<|J.tr<|y.tr<|A.tr<|p.tr<|o.tr<|B.tr<|q.tr s) (mp [(11,2),(9,3),(12,4)] 0) R R) (dk.map (mp [(11,2),(9,3),(12,4)] 0) R R) (Bc.cast ((bC.stp bj).map (mp [(11,2),(9,3),(12,4)] 0) R R) (by simp only[al])) ((aX.stp<|t.tr<|K.tr<|H.tr<|C.tr<|D.tr<|j.tr<|f.tr<|g.tr<|d.tr<|e.tr<|J.tr<|y.tr<|A.tr<|p.tr<|o.tr<|B.tr<|q.tr s).map (mp [(11,2),(9,3),(12,4)] 0) R R) (bD.map (mp [(11,2),(9,3),(12,4)] 0) R R) ei) ?_
 rintro _ fB ⟨fg,br,bq,rfl,cY,dl,dm,d4,dn⟩
 obtain⟨cp,aw,a7⟩:=Ji cY 13 R
 refine Tv<|?_
 have bE:=dn.mx a7 R (R:13+4=17)
 refine Jd<|Je [1,1] R<|Jb3 R I37 (bE.ld 0 R R)<|Ob h λeE ej h=>Jr3 R C106 (iS (κ:=λb=>mp [(15,2)] 0<|cp b) ((dl.mx (bX _) a7 R (R:13+2=15)).map (mp [(15,2)] 0) R R) ej) ?_
 rintro _ eA ⟨fh,rfl,c0,dp,d5⟩
 obtain⟨bf,Q,et⟩:=Ji c0 18 R
 refine Tv<|Jd<|Je [1,2,2,2,2,2,2,1,2,1,2] R ?_
 have bF:=bE.stp Q
 refine Jb3 R I37 (bF.ld 0 R R)<|Jn3 R U37 R R<|Jn 2 R<|Ob h λbY h dN=>Jf4 [0,5,10,11,12,14,15,17] 120 bY bf eA [(4,2),(5,2),(6,2),(7,1),(8,2),(9,1),(10,2)] [] tv ?_ ?_
 revert h
 cases e9:decide (1<(bb.1.length:Int))
 refine JF λh=>Jn 2 R<|Ob h λfS bM h=>Jc3 R N bM U31 Z37 ?_
 obtain⟨eT,fm,dq,d0⟩:=(N.stp (M.tr (t.tr (K.tr (H.tr (C.tr (D.tr (j.tr (f.tr (g.tr (d.tr (e.tr (J.tr (y.tr (A.tr (p.tr (o.tr (B.tr (q.tr (s.tr (aw.tr Q))))))))))))))))))))).gSl bM
 refine Jb3 R I37 d0<|Jn 1 R<|Ob h λfT ek h=>Jr3 R C89 (cu (κ:=Mk bf) (Ji3 dq) ek) ?_
 rintro _ fC ⟨fi,rfl,c1⟩
 obtain⟨eL,cG,fk⟩:=Ji c1 21 R
 refine Tv<|Jn 1 R ?_
 cases h
 exact Jv1 _ tv ⟨R,_,cG.wk R⟩<|KM R
 refine JT λh=>Jn 3 R<|Jz3 R<|Jn 1 R<|Jz3 R<|Jn 1 R ?_
 cases h
 exact Jg4 tv R
 rintro _ ce _ ⟨rfl,aL,S⟩
 have h:=dN
 refine Jd<|Ob h λa9 h dO=>Jo3 [0,5,10,11,12,15] (λE L w'=>∃κ' aA aD,L=(14,.slice aA a9.length aD)::E/\Stp [10,20,21] aL ce κ' w'/\Oc (Ep.fz<|Rp.sl<|Rp.int .i64) 37 κ' w' 10 aA aD a9) ?_ ?_
 revert h
 cases fa:bY
 refine JF λh=>Jy R<|Js ?_
 cases h
 exact Jw1 _ ⟨aL,U,T,R,Jj3,(aF.stp<|T6 B q s aw Q S)⟩<|KM R
 refine JT λh=>Jx R<|Jh3 [2,1,1,1,2] 1 R<|Jb3 R I37 ((bF.stp S).ld 0 R R) ?_
 obtain⟨cr,bl,eI⟩:=kB aL ce 20
 refine Jw3 (κ:=cr) (E:=(Ep.fz<|Rp.sl<|Rp.int .i64)) 21 [] (parts:=[(0,.tmp 122)]) (cells:=[.slice br bb.1.length bq]) (xs:=([eE]:List (List Int))) R Y31 bT R (Je4 ⟨_,_,(congrArg (λn=>[Value.slice br n bq])<|d5),(Sl.z1<|Sl.st eI ((dp.mx (bX _) et R (R:18+2=20)).stp S).rdc)⟩) λeQ eO fE cs bm ds=>Tv<|Ob h λfU el h=>Jy3 (κ:=cs) (E:=(Ep.fz<|Rp.sl<|Rp.int .i64)) 10 [21] R Y31 bT R (aF.stp<|T8 B q s aw Q S bl bm) ds.src (cZ R) el R λcT cO fF ct cH dt=>Tv<|Jc 1 R ?_
 cases h
 exact Jw1 _ ⟨ct,cT,cO,R,(T3 bl bm cH).wk R,dt⟩<|KM R
 rintro _ fD ⟨cq,aA,aD,rfl,bk,dr⟩
 have h:=dO
 refine Jz<|Jp<|Jf3 R ?_
 cases h
 exact Jz1 λa ha=>⟨k,_,Ja3 _,⟨(λb=>ren [(16,9)]<|cq b),(a9,((IntKind.i64.wrap<|c.2.1-1):Int),bb.2),aA,aD,R,(Jy2 ((T8 o B q s aw Q S bk).wk R) [(16,9)] R),(dr.map (ren [(16,9)]) R R),(((dm.mx dV a7 R (R:13+3=16)).stp (T3 Q S bk)).map (ren [(16,9)]) R R),(al.trans d4),a2⟩,(ha.mm R)⟩
 refine JT λh=>Jx R<|Jc1<|Jt<|Jb1<|Jp<|Jf3 R ?_
 cases h
 exact Jz1 λa ha=>⟨k,_,Ja3 _,⟨aK,(c.1,((IntKind.i64.wrap<|c.2.1-1):Int),c.2.2),U,T,R,o.wk R,aF,ai,al,a2⟩,(ha.mm R)⟩
 rintro _ fw ⟨ck,Z,aC,ax,rfl,cF,dh,eY,e4,rfl⟩
 have h:=yI dM
 refine Jp<|Jg3 [2,1] 1 R<|Ob h λfV em h=>Jr3 R C221 (lW (κ:=λb=>mp [(10,2)] 1<|ck b) (dh.map (mp [(10,2)] 1) R R) em) ?_
 rintro _ fG ⟨fj,rfl,c2,du,d6⟩
 obtain⟨cv,cI,eu,eK⟩:=Jj c2 11 R
 refine Tv<|Jd<|Je3 R<|Ju<|Ja2 (l:=[.tmp 4]) V164 (Jp2 R R) R ?_
 cases h
 exact⟨(λb=>ren [(13,2)]<|cv b),aC,ax,(by simp only[(d6)]),((hE.stp<|M.tr<|t.tr<|K.tr<|H.tr<|C.tr<|D.tr<|j.tr<|f.tr<|g.tr<|d.tr<|e.tr<|J.tr<|y.tr<|A.tr<|p.tr<|cF.tr cI).map (ren [(13,2)]) R R),((du.mxz eK eu R (R:11+2=13)).map (ren [(13,2)]) R R)⟩
theorem p9 {aP aM aQ aN}{p0:Det}{aS aR aO aL}{p1:Det}{p2:Int}(a7:Rd (Rp.sl (Rp.int .i64)) κ w 0 aP aM p0.Next) (cu:Rd Pair.rp κ w 0 aQ aN p0.Pairs) (a9:Rd (Rp.sl (Rp.int .i64)) κ w 0 aS aR p1.Next) (cv:Rd Pair.rp κ w 0 aO aL p1.Pairs){r:Det×Bool}(h:eG p0 p1 p2=some r):Ret Tryz.prog 186 [.agg #[.slice aP p0.Next.length aM,.slice aQ p0.Pairs.length aN],.agg #[.slice aS p1.Next.length aR,.slice aO p1.Pairs.length aL],vi p2] w (λv w'=>∃(κ':Col) (bl:Option Addr) (bn:Nat) (bm:Option Addr) (bo:Nat),v= .tuple #[.agg #[.slice bl r.1.Next.length bn,.slice bm r.1.Pairs.length bo],.bool r.2]/\Ent κ w κ' w'/\Oc (Ep.own E6 2) 37 κ' w' 2 bl bn r.1.Next/\Oc Pair.ep127 127 κ' w' 3 bm bo r.1.Pairs):=by
 unfold eG at h
 refine Jk3 κ F186 R N186 R λhE=>Je [1,1,1,2] R<|Js3 (κ:=κ) 2 R λc8 w1 bD A aX=>Tv<|Js3 (κ:=bD) 3 R λc9 dL bE t a5=>Tv<|Jt3 (κ:=bE) 4 R X71 R λda dQ bs i aU=>Tv<|Jb 1 R<|Je [1,1,2] R<|Jd4 (κ:=bs) 5 [0,0] R Y37 a8 R λbW bO dy bz f cc=>Tv<|Jw3 (κ:=bz) (E:=(Ep.own E6 2)) 6 [5] (parts:=[(0,.tmp 16)]) (cells:=[.slice bW ([0,0]:List Int).length bO]) (xs:=([([0,0]:List Int)]:List (List Int))) R Y31 bT R (Je4 ⟨_,_,R,cc⟩) λbK bR dF bC g ch=>Tv<|Jb 1 R<|Je [2,1,1] R<|Jf R (Ji4 [.slice none 0 0,.slice none 0 0] R)<|Jt3 (κ:=bC) 7 R X71 R λaT dI Q d ci=>Tv<|Jh4 (κ:=Q) 7 R Z71 R ci R λbp e cj=>Tv<|Jd<|Jq<|Je3 R<|Ob h λbj cF ba=>?_
 clear h
 refine Jo3 [3,4,6,9] (λE L w'=>∃κ',∃x:(List<|List Int)×Int×(List<|List Int),∃ar au I K,L=(8,.slice ar x.1.length au)::E/\Stp [6,7,8,9,10,12,13] Q bp κ' w'/\Oc (Ep.own E6 2) 37 κ' w' 6 ar au x.1/\Oc (Ep.own E6 2) 37 κ' w' 8 I K x.2.2/\Bc κ' w' 7 aT 71 [.slice I x.2.2.length K,.slice none 0 0]/\bj=eg x) ?_ ?_
 refine Jv<|Jp3 [2,3,4,6,9] (λk E L w'=>∃κ',∃c:(List<|List Int)×Int×(List<|List Int),∃N J ac ad,L=(8,.slice N c.1.length J)::(10,vi c.2.1)::E/\Stp [6,7,8,9,10,12,13] Q bp κ' w'/\Oc (Ep.own E6 2) 37 κ' w' 6 N J c.1/\Oc (Ep.own E6 2) 37 κ' w' 8 ac ad c.2.2/\Bc κ' w' 7 aT 71 [.slice ac c.2.2.length ad,.slice none 0 0]/\bU (fO p0 p1 p2) k c=some bj) ⟨_,_,⟨Q,((([([0,0]:List Int)]:List (List Int)):(List<|List Int)),(0:Int),(([]:List (List Int)):(List<|List Int))),bK,bR,none,0,R,Jj3,(ch.stp<|d.tr e),Ow.nil,cj,cF⟩,(KM R)⟩ ?_
 rintro k _ dK ⟨aG,c,N,J,ac,ad,rfl,s,aY,aZ,a0,h⟩
 rcases k with _ | k
 cases h
 obtain⟨dm,h,az⟩:=BI h;unfold fO at h
 refine Jq<|Jg3 [2,2,2,2] 2 R<|Jn3 R U31 R R<|Jb 1 R ?_
 revert h
 cases dg:decide (c.2.1<(c.1.length:Int))
 refine JF λh=>Jy R<|Jc1<|Jt<|Jt ?_
 cases h
 have h:=az
 refine Jb1 ?_
 cases h
 exact Jw1 _ ⟨aG,(c.1,c.2.1,c.2.2),N,J,ac,ad,R,s.wk R,aY,aZ,a0,R⟩<|KM R
 refine JT λh=>Jx R<|Js<|Jp<|Jq<|Jv<|Je [1,2] R<|Jx3 (κ:=aG) (E:=E6) 9 R Y37 a8 R λbJ bM bq ah j cp=>Tv<|Jb 1 R<|Jq<|Je3 R<|Ob h λ_ cH h=>?_
 have cy:=kN cH
 refine Ob h λbk cG cw=>?_
 clear h
 refine Jo3 [2,3,4,6,9,10] (λE L w'=>∃κ',∃m:(List<|List Int)×(List Int),∃Y Z ae V,L=(8,.slice Y m.1.length Z)::(11,.slice ae m.2.length V)::E/\Stp [6,9,12,13] ah bq κ' w'/\Oc (Ep.own E6 2) 37 κ' w' 6 Y Z m.1/\Oc E6 2 κ' w' 9 ae V m.2/\bk=eg m) ?_ ?_
 refine Jv<|Jp3 [2,3,4,6,9,10] (λk E L w'=>∃κ' n,∃p:(List<|List Int)×(List Int),∃O M X aa,L=(8,.slice O p.1.length M)::(11,.slice X p.2.length aa)::(12,vi n)::E/\Stp [6,9,12,13] ah bq κ' w'/\Oc (Ep.own E6 2) 37 κ' w' 6 O M p.1/\Oc E6 2 κ' w' 9 X aa p.2/\0<=n/\n6 (p2-n)=k/\cntM (er p0 p1 c) k n p=some bk) ⟨_,_,⟨ah,0,(c.1,(([]:List Int):(List Int))),N,J,bJ,bM,R,Jj3,(aY.stp j),cp,(by decide),(by simp),cG⟩,(KM R)⟩ ?_
 rintro k _ dN ⟨S,n,p,O,M,X,aa,rfl,C,ax,a1,cz,de,h⟩
 rcases k with _ | k
 have aA:=h;obtain⟨cS,h⟩:=cn (eg (Sum.inl p):(Det×Bool)⊕(((List (List Int))×(List Int))⊕((List (List Int))×(List Int))))
 have D:decide (n<p2)=false:=Jo2 (by omega)
 refine Jq<|Je3 R<|Jw2 R D<|Jc1<|Jt<|Jt ?_
 cases h
 have h:=aA
 refine Jb1 ?_
 cases h
 exact Jw1 _ ⟨S,(p.1,p.2),O,M,X,aa,R,C.wk R,ax,a1,R⟩<|KM R
 obtain⟨cS,h,aA⟩:=BI h;unfold er at h
 have D:decide (n<p2)=true:=Jn2 (by omega)
 refine Jq<|Je3 R<|Jv2 R D<|Js<|Jp<|Jq<|Jv<|Jq<|Js1 (κ:=S) [0,2,6] none [(0,2),(2,2),(3,2),(4,2),(10,2),(1,0),(5,0),(6,2),(7,0),(8,2),(9,0),(11,2),(12,0),(13,2)] [] (by kernel_rfl) (by kernel_rfl) λdO u=>Jd3 R U71 R Z31<|Jn 2 R<|Ob h λdT bb h=>Jc3 R ax.rdc bb U31 Z37<|Jn 1 R<|Jg R (Jc2 I31 R R<|hvC ((aX.stp<|T10 t i f g d e s j C u).ld 0 R R) R) ?_
 have ay:=ax.stp u
 obtain⟨c4,dn,a2,cB⟩:=ay.rdc.gSl bb
 refine Jg R (Jc2 I37 R R<|hvC cB R)<|Ob h λdU bc h=>Jc3 R a2 bc U37 Z2<|Jg R (Jc2 I2 R R<|hvC (a2.gInt bc) R)<|Ob h λdV bd h=>Jc3 R a7 bd U31 Z37 ?_
 obtain⟨c5,dp,a3,cC⟩:=(a7.stp (T11 A t i f g d e s j C u)).gSl bd
 refine Jg R (Jc2 I37 R R<|hvC cC R)<|Ob h λaB be h=>Jc3 R a3 be U37 Z2<|Jg R (Jc2 I2 R R<|hvC (a3.gInt be) R)<|Jn 1 R<|Jt1<|Jd<|Jq<|Js1 (κ:=S) [0,3,6] none [(0,2),(2,2),(3,2),(4,2),(10,2),(1,0),(5,0),(6,2),(7,0),(8,2),(9,0),(11,2),(12,0),(13,2)] [] (by kernel_rfl) (by kernel_rfl) λdP H=>Jd3 R U71 R Z31<|Jn 2 R<|Ob h λdW bf h=>Jc3 R ay.rdc bf U31 Z37<|Jn 1 R<|Jg R (Jc2 I31 R R<|hvC ((a5.stp<|T10 i f g d e s j C u H).ld 0 R R) R) ?_
 have af:=ay.stp H
 obtain⟨c6,dq,a4,cD⟩:=af.rdc.gSl bf
 refine Jg R (Jc2 I37 R R<|hvC cD R)<|Ob h λdX bg h=>Jc3 R a4 bg U37 Z2<|Jg R (Jc2 I2 R R<|hvC (a4.gInt bg) R)<|Ob h λdY bh h=>Jc3 R a9 bh U31 Z37 ?_
 obtain⟨c7,dr,a6,cE⟩:=(a9.stp (T12 A t i f g d e s j C u H)).gSl bh
 refine Jg R (Jc2 I37 R R<|hvC cE R)<|Ob h λaC bi h=>Jc3 R a6 bi U37 Z2<|Jg R (Jc2 I2 R R<|hvC (a6.gInt bi) R)<|Jn 1 R<|Jt1<|Jd<|Jg3 [2,2,2,1,2] 3 R<|Ob h λcU cJ h=>Jr3 R C95 (qv (κ:=Mk S) (Ji3 af.rdc) cJ) ?_
 rintro _ cT ⟨dk,rfl,b0⟩
 obtain⟨aj,U,dl⟩:=Ji b0 10 R
 refine Tv<|Jb 1 R<|Jq<|Je3 R<|Ob h λP h cx=>Jo3 [2,3,4,6,9,10,11,12] (λE L w'=>∃κ' W ab,L=(8,.slice W P.1.length ab)::(15,vi P.2)::E/\Stp [6,12,13] aj cT κ' w'/\Oc (Ep.own E6 2) 37 κ' w' 6 W ab P.1) ?_ ?_
 revert h
 cases dh:decide (cU<0)
 refine JF λh=>Jy R<|Js ?_
 cases h
 exact Jw1 _ ⟨aj,O,M,R,Jj3,(af.stp U)⟩<|KM R
 refine JT λh=>Jx R<|Jg3 [2,2,2] 1 R<|Jn3 R U31 R R<|Jb 1 R<|Jh3 [2,2,2,1,1,1,2] 3 R<|Jd4 (κ:=aj) 12 [aB,aC] R Y37 a8 R λbP bS dS bG aK ct=>Tv<|Jw3 (κ:=bG) (E:=(Ep.own E6 2)) 13 [12] (parts:=[(0,.tmp 68)]) (cells:=[.slice bP ([aB,aC]:List Int).length bS]) (xs:=([([aB,aC]:List Int)]:List (List Int))) R Y31 bT R (Je4 ⟨_,_,R,ct⟩) λc0 cY ds bt aH b1=>Tv<|Ob h λdZ cK h=>Jy3 (κ:=bt) (E:=(Ep.own E6 2)) 6 [13] R Y31 bT R (af.stp<|T3 U aK aH) b1.src (cZ R) cK R λbL bV dt bu bH b2=>Tv<|Jc 1 R ?_
 cases h
 exact Jw1 _ ⟨bu,bL,bV,R,(T3 aK aH bH).wk R,b2⟩<|KM R
 rintro _ dR ⟨bF,W,ab,rfl,aJ,cs⟩
 have h:=cx
 refine Jp<|Jh3 [2,2,1,1,2] 2 R<|Jd4 (κ:=bF) 12 [P.2] R Y37 a8 R λc2 dd du bv al b3=>Tv<|Ob h λcV cL h=>Jy3 (κ:=bv) (E:=E6) 9 [] R Y37 a8 R (a1.stp<|T5 u H U aJ al) (Sl.srcP (co _) b3.rdc) bZ cL R λbN bQ dv bw aI b4=>Tv<|Jc 1 R<|Jz<|Jp<|Jf3 R ?_
 have cI:cb .i64 (n+1)=n+1:=wr1 cz (Jm2 D) cy
 rw[cI]
 have D:=Jm2 D
 cases h
 exact Jz1 λa ha=>⟨k,_,Ja3 _,⟨bw,n+1,(P.1,cV),W,ab,bN,bQ,R,(T7 C u H U aJ al aI).wk R,(cs.stp<|al.tr aI),b4,by omega,by omega,aA⟩,(ha.mm R)⟩
 rintro _ dM ⟨ai,m,Y,Z,ae,V,rfl,G,cq,cr,rfl⟩
 have h:=yI cw
 refine Jp<|Jq<|Jg3 [2,2,2] 1 R<|Jn3 R U31 R R<|Jb 1 R ?_
 revert h
 cases df:decide (48<(m.1.length:Int))
 refine JF λh=>Jy R<|Js<|Jp<|Ja [2,1,2,1,1,2,1] R<|Jd3 R U71 R Z31 ?_
 have aV:=a0.stp (j.tr G)
 refine Jb3 R I31 (aV.ld 0 R R)<|Jn 1 R<|Jw3 (κ:=ai) (E:=(Ep.own E6 2)) 10 [9] (parts:=[(0,.tmp 81)]) (cells:=[.slice ae m.2.length V]) (xs:=([m.2]:List (List Int))) R Y31 bT R (Je4 ⟨_,_,R,cr⟩) λc3 c1 dx bx T b6=>Tv<|Ob h λaD cM h=>Jy3 (κ:=bx) (E:=(Ep.own E6 2)) 8 [10] R Y31 bT R (aZ.stp<|T3 j G T) b6.src (cZ R) cM R λap aw dz aE am b7=>Tv<|Jd3 R U71 R Z31<|Ju3 (κ:=aE) 7 (off:=0) (vc:=[.slice ap aD.length aw]) (cs':=[.slice ap aD.length aw,.slice none 0 0]) R Z31 R (aV.stp<|T.tr am) R λdA an b8=>Tv<|Jo<|Jz<|Jp<|Jf3 R ?_
 cases h
 exact Jz1 λa ha=>⟨k,_,Ja3 _,⟨aE,(m.1,((IntKind.i64.wrap<|c.2.1+1):Int),aD),Y,Z,ap,aw,R,(T6 s j G T am an).wk R,(cq.stp<|T3 T am an),(b7.stp an),b8,az⟩,(ha.mm R)⟩
 refine JT λh=>Jx R<|Je [2,1,2] R<|Jf R (Ji4 [.slice none 0 0,.slice none 0 0] R)<|Jh4 (κ:=ai) 4 R Z71 R (aU.stp<|T7 f g d e s j G) R λdw bI b5=>Tv<|Jb 1 R<|Ju<|Jw<|Ja1<|Jw<|Jw ?_
 cases h
 obtain rfl:=Option.some.inj az
 have h:=yL ba
 refine Ja1<|Jq2<|Jw<|Ja2 (l:=[.cell 6 71,.tmp 7]) V186 (ca R b5 I71 Z71 R<|Jp2 R R) R ?_
 cases h
 exact⟨ai,none,0,none,0,R,(hE.stp<|T11 A t i f g d e s j G bI),Ow.nil,Ow.nil⟩
 rintro _ dJ ⟨aF,x,ar,au,I,K,rfl,B,ck,cl,cm,rfl⟩
 have h:=yI ba
 refine Jp<|Jq<|Js1 (κ:=aF) [2,3] none [(0,2),(2,2),(4,2),(6,2),(1,0),(5,0),(3,1),(7,1),(8,1),(9,2),(10,1)] [] (by kernel_rfl) (by kernel_rfl) λdB o=>Jd3 R U71 R Z69<|Jn 1 R<|Jd3 R U71 R Z69<|Jn 1 R<|Jg R (Jc2 I69 R R<|hvC ((aX.stp<|T8 t i f g d e B o).ld 1 R R) R)<|Jg R (Jc2 I69 R R<|hvC ((a5.stp<|T7 i f g d e B o).ld 1 R R) R)<|Ob h λd0 cN h=>?_
 have aW:=ck.stp o
 refine Jr3 R C98 (ng (κ:=Mk aF) (Ji3<|cu.stp<|T9 A t i f g d e B o) (Ji3 aW.rdc) cN) ?_
 rintro _ dC ⟨di,db,cW,rfl,bX,b9⟩
 obtain⟨bA,q,cQ⟩:=Ji bX 9 R
 refine⟨(q.cl R),Ob h λd1 cO h=>Jr3 R C98 (ng (κ:=Mk bA) (Ji3<|cv.stp<|T10 A t i f g d e B o q) (Ji3 (aW.stp q).rdc) cO) ?_⟩
 rintro _ dD ⟨dj,dc,cX,rfl,bY,cd⟩
 obtain⟨bB,y,cR⟩:=Ji bY 12 R
 have ak:=(q.tr y)
 refine⟨(ak.cl R),Ob h λbr cP h=>Jm1 (κ:=bB) (E:=Pair.ep127) 11 [14] R R R R R R R R R Y69 cA R R R R ((b9.mx Pair.no127 cQ R (R:9+2=11)).stp y) (cd.mx Pair.no127 cR R (R:12+2=14)).src (cZ R) cP R λav aq dE ag z ce=>⟨((ak.tr z).cl R),Jd3 R U71 R Z69<|Ju3 (κ:=ag) 7 (off:=1) (vc:=[.slice av br.length aq]) (cs':=[.slice I x.2.2.length K,.slice av br.length aq]) R Z69 R (cm.stp<|T4 o q y z) R λdG F cf=>⟨((T3 ak z F).cl R),Jt1<|Jd<|Je [1,1,2] R<|Jb4 tv R (Jc4 (haE cf.cells) I71 Z71 R)<|Jh4 (κ:=ag) 4 R Z71 R (aU.stp<|T10 f g d e B o q y z F) R λdH ao cg=>Tv<|Jb 1 R<|Ju<|Ja2 (l:=[.cell 6 71,.tmp 7]) V186 (ca R cg I71 Z71 R<|Jp2 R R) R ?_⟩⟩⟩
 cases h
 exact⟨(λb=>ren [(8,2),(11,3)]<|ag b),I,K,av,aq,R,((hE.stp<|T14 A t i f g d e B o q y z F ao).map (ren [(8,2),(11,3)]) R R),((cl.stp<|T6 o q y z F ao).map (ren [(8,2),(11,3)]) R R),((ce.stp<|F.tr ao).map (ren [(8,2),(11,3)]) R R)⟩
theorem m9 {p0:Sig}{p1:Int}{p2:Int}  {r:Int}(h:i9 p0 p1 p2=some r):Ret Tryz.prog 94 [.agg #[vi p0.In,vi p0.Out],vi p1,vi p2] w (Pvi κ w r):=by
 unfold i9 at h
 refine Jk3 κ F94 R N94 R λhE=>Je [1,2] R<|Js3 (κ:=κ) 2 R λQ w1 n i c=>Tv<|Jb 1 R<|Jq<|Je [1,1,2,2,2,2,1,1,2,1,2,2,2,2,2,1,1,2,1,2,2] R<|Jb4 tv R (Jc4 (haE c.cells) I28 Z28 R)<|Ob h λN K h=>Jr3 R C58 (jb (κ:=Mk n) (p0:=p0) K) ?_
 rintro _ M ⟨aa,rfl,C⟩
 obtain⟨g,a,ab⟩:=Ji C 3 R
 refine Tv<|Jn 2 R<|Ob h λj h D=>Jf4 [1,2,3] 18 j g M [(4,2),(5,2),(6,1),(7,1),(8,2),(9,1),(10,2),(11,2)] [(12,2),(13,2),(14,2),(15,1),(16,1),(17,2),(18,1),(19,2),(20,2)] tv ?_ ?_
 revert h
 cases S:(!N)
 refine JF λh=>Jn 1 R<|Jd3 R U28 R Z2<|Jb3 R I2 ((c.stp a).ld 0 R R)<|Ob h λan F h=>Jr3 R C62 (dh (κ:=Mk g) F) ?_
 rintro _ ah ⟨V,rfl,x⟩
 obtain⟨m,q,ac⟩:=Ji x 5 R
 refine Tv<|Jn 1 R<|Ob h λao G h=>Jr3 R C59 (cP (κ:=Mk m) G) ?_
 rintro _ ai ⟨W,rfl,y⟩
 obtain⟨O,s,ad⟩:=Ji y 7 R
 refine Tv<|Jn 2 R ?_
 cases h
 exact Jv1 _ tv ⟨R,_,(q.tr s).wk R⟩<|KM R
 refine JT λh=>Jn 2 R<|Jz3 R<|Jz3 R<|Jn 1 R<|Jz3 R<|Jn 2 R ?_
 cases h
 exact Jg4 tv R
 rintro _ L _ ⟨rfl,e,b⟩
 have h:=D
 refine Jn 1 R<|Ob h λk h E=>Jf4 [1,2,3] 27 k e L [(13,2),(14,2),(15,1),(16,1),(17,2),(18,1),(19,2),(20,2)] [] tv ?_ ?_
 revert h
 cases T:j
 refine JF λh=>Jn 1 R<|Jd3 R U28 R Z2<|Jb3 R I2 ((c.stp<|a.tr b).ld 1 R R)<|Ob h λap H h=>Jr3 R C62 (dh (κ:=Mk e) H) ?_
 rintro _ aj ⟨X,rfl,z⟩
 obtain⟨o,t,ae⟩:=Ji z 5 R
 refine Tv<|Jn 1 R<|Ob h λaq I h=>Jr3 R C59 (cP (κ:=Mk o) I) ?_
 rintro _ ak ⟨Y,rfl,A⟩
 obtain⟨P,u,af⟩:=Ji A 7 R
 refine Tv<|Jn 2 R ?_
 cases h
 exact Jv1 _ tv ⟨R,_,(t.tr u).wk R⟩<|KM R
 refine JT λh=>Jn 2 R<|Jz3 R<|Jz3 R<|Jn 1 R<|Jz3 R<|Jn 2 R ?_
 cases h
 exact Jg4 tv R
 rintro _ al _ ⟨rfl,f,d⟩
 have h:=E
 refine Jd ?_
 revert h
 cases U:k
 refine JF λh=>Jy R<|Js<|Jp<|Jg3 [2,2,1,1,2,2,2,2] 1 R<|Jd3 R U28 R Z2<|Jb3 R I2 ((c.stp<|T3 a b d).ld 0 R R)<|Ob h λar J h=>Jr3 R C62 (dh (κ:=Mk f) J) ?_
 rintro _ am ⟨Z,rfl,B⟩
 obtain⟨p,v,ag⟩:=Ji B 5 R
 refine Tv<|Jb 4 R<|Ju<|Ja2 (l:=[.tmp 6]) V94 (Jp2 R R) R ?_
 cases h
 exact⟨p,R,(hE.stp<|T5 i a b d v)⟩
 refine JT λh=>Jx R<|Je3 R<|Ju<|Jw<|Ja2 (l:=[.tmp 6]) V94 (Jp2 R R) R ?_
 cases h
 exact⟨f,R,(hE.stp<|T4 i a b d)⟩
theorem mB {a4 a0 a5 a2 a3 ba ay a9 a7 bb}{p0:l7Game}{a1 bN}{p1:(List Bool)}{p2:Int}{aZ bO}{az:(List Bool)}(av:Rd (Rp.int .i64) κ w 0 a4 a0 p0.owner) (bh:Rd (Rp.int .i64) κ w 0 a5 a2 p0.prio) (bi:Rd (Rp.sl (Rp.int .i64)) κ w 0 a3 ba p0.next) (aK:Rd (Rp.sl (Rp.int .i64)) κ w 0 ay a9 p0.prev) (bj:Rd (Rp.int .i64) κ w 0 a7 bb p0.pick) (Y:Rd Rp.bool κ w 0 a1 bN p1) (bk:Rd Rp.bool κ w 0 aZ bO az){r:(List Bool)}(h:ie p0 p1 p2 az=some r):Ret Tryz.prog 272 [.agg #[.slice a4 p0.owner.length a0,.slice a5 p0.prio.length a2,.slice a3 p0.next.length ba,.slice ay p0.prev.length a9,.slice a7 p0.pick.length bb],.slice a1 p1.length bN,vi p2,.slice aZ az.length bO] w (Pvs Ep.bool 4 κ w r):=by
 unfold ie at h
 refine Jk3 κ F272 R N272 R λhE=>Je [1,2] R<|Js3 (κ:=κ) 2 R λdS w1 b1 x bg=>Tv<|Jb 1 R<|Jg3 [2,2,1,2] 1 R<|Jn3 R U178 R R<|Ob h λo dk h=>Jl1 (κ:=b1) (E:=Ep.bool) (z:=(false:Bool)) 3 R R R R R R R Y178 dI R R R R R (λ_ _ _=>R) (Ju2 dk) λt u ep b6 p cJ=>Tv<|Jb 1 R<|Jg3 [2,2,1,2] 1 R<|Jn3 R U178 R R<|Ob h λq dl h=>Jl1 (κ:=b6) (E:=E6) (z:=(0:Int)) 4 R R R R R R R Y37 a8 R R R R R (λ_ _ _=>R) (Ju2 dl) λC B ew bT i cs=>Tv<|Jb 1 R<|Je [1,2] R<|Jx3 (κ:=bT) (E:=E6) 5 R Y37 a8 R λcj ci bQ aA e cw=>Tv<|Jb 1 R<|Jq<|Je3 R ?_
 have cX:(p1.length:Int)<=9223372036854775807:=Y.len_le
 refine Ob h λbL de cR=>?_
 clear h
 refine Jo3 [1,2,4,9,10] (λE L w'=>∃κ',∃m:(List Int)×(List Bool)×(List Int),∃ae ai,L=(11,.slice ae m.1.length ai)::E/\Stp [3,4,5] aA bQ κ' w'/\Oc E6 2 κ' w' 5 ae ai m.1/\Oc Ep.bool 4 κ' w' 3 t u m.2.1/\o.length=m.2.1.length/\Oc E6 2 κ' w' 4 C B m.2.2/\q.length=m.2.2.length/\bL=eg m) ?_ ?_
 refine Jv<|Jp3 [1,2,3,4,9,10] (λk E L w'=>∃κ' n,∃g:(List Int)×(List Bool)×(List Int),∃W V,L=(11,.slice W g.1.length V)::(12,vi n)::E/\Stp [3,4,5] aA bQ κ' w'/\Oc E6 2 κ' w' 5 W V g.1/\Oc Ep.bool 4 κ' w' 3 t u g.2.1/\o.length=g.2.1.length/\Oc E6 2 κ' w' 4 C B g.2.2/\q.length=g.2.2.length/\0<=n/\n6 ((p1.length:Int)-n)=k/\cntM (eu p0 p1 az) k n g=some bL) ⟨_,_,⟨aA,0,((([]:List Int):(List Int)),o,q),cj,ci,R,Jj3,cw,(cJ.stp<|i.tr e),R,(cs.stp e),R,(by decide),(by simp),de⟩,(KM R)⟩ ?_
 rintro k _ dw ⟨ab,n,g,W,V,rfl,I,aJ,ap,aw,aq,ax,cY,dW,h⟩
 rcases k with _ | k
 have aM:=h;obtain⟨dr,h⟩:=cn (eg (Sum.inl g):(List Bool)⊕(((List Int)×(List Bool)×(List Int))⊕((List Int)×(List Bool)×(List Int))))
 have N:decide (n<(p1.length:Int))=false:=Jo2 (by omega)
 refine Jq<|Jg3 [2,2,2,2] 2 R<|Jn3 R U178 R R<|Jb 1 R<|Jw2 R N<|Jc1<|Jt<|Jt ?_
 cases h
 have h:=aM
 refine Jb1 ?_
 cases h
 exact Jw1 _ ⟨ab,(g.1,g.2.1,g.2.2),W,V,R,I.wk R,aJ,ap,aw,aq,ax,R⟩<|KM R
 obtain⟨dr,h,aM⟩:=BI h;unfold eu at h
 have N:decide (n<(p1.length:Int))=true:=Jn2 (by omega)
 refine Jq<|Jg3 [2,2,2,2] 2 R<|Jn3 R U178 R R<|Jb 1 R<|Jv2 R N<|Js<|Jp<|Jq<|Jv<|Jq<|Jg3 [2,2,2,1] 2 R<|Ob h λdA bs h=>Jc3 R Y bs U178 Z4 ?_
 have au:=Y.stp (T5 x p i e I)
 refine Jb3 R I4 (au.gBool bs)<|Jd<|Ob h λaN h cU=>Jo3 [1,2,3,4,9,10,11,12] (λE L w'=>∃κ',L=E/\Stp [4] ab dw κ' w'/\Oc E6 2 κ' w' 4 C B aN/\q.length=aN.length) ?_ ?_
 revert h
 cases d5:dA
 refine JF λh=>Jy R<|Js ?_
 cases h
 exact Jw1 _ ⟨ab,R,Jj3,aq,ax⟩<|KM R
 have S:=(T5 x p i e I)
 refine JT λh=>Jx R<|Jh3 [2,2,1,2,2,1,2,1] 2 R<|Jb4 tv R (Jc4 (haE (bg.stp<|T4 p i e I).cells) I210 Z210 R)<|Jn 2 R<|Ob h λeE dm h=>Jr3 R C249 (qA (κ:=Mk ab) (p0:=p0) (Ji3<|av.stp S) (Ji3<|bh.stp S) (Ji3<|bi.stp S) (Ji3<|aK.stp S) (Ji3<|bj.stp S) (Ji3 au) dm) ?_
 rintro _ eq ⟨d9,rfl,cq⟩
 obtain⟨b5,aV,eb⟩:=Ji cq 6 R
 refine Tv<|Ob h λeF dn h=>Jf R (Jf2 aq.rdc dn U37 Z2 R R ax R)<|Ob h λdG bC h=>Jk1 (κ:=b5) (E:=E6) 4 [] R R R R R R R R Z2 R R R R (aq.stp aV) bC λer b7 cg cG=>Tv<|?_
 have c9:q.length=dG.length:=ax.trans (Jt2 bC).2.2.2.symm
 refine Jo ?_
 cases h
 exact Jw1 _ ⟨b7,R,(aV.tr cg).wk R,cG,c9⟩<|KM R
 rintro _ dx ⟨b4,rfl,A,cF,c8⟩
 have h:=cU
 refine Jp<|Jg3 [2,2,2,1,2,2,2,2,1,2] 2 R<|Ob h λdB bt h=>Jc3 R au bt U178 Z4<|Jb3 R I4 ((au.stp A).gBool bt)<|Jn 1 R<|Ob h λbI h cV=>Jf4 [1,2,3,4,9,10,11,12] 50 bI b4 dx [(5,2),(6,2),(7,2),(8,1),(9,2)] [] tv ?_ ?_
 revert h
 cases d6:dB
 refine JF λh=>Jn 3 R<|Jz3 R<|Jn 1 R ?_
 cases h
 exact Jg4 tv R
 refine JT λh=>Jn 2 R<|Ob h λeG bu h=>Jc3 R bk bu U178 Z4<|Jb3 R I4 ((bk.stp<|T6 x p i e I A).gBool bu)<|Jn 1 R ?_
 cases h
 exact Jg4 tv R
 rintro _ dy _ ⟨rfl,aD,J⟩
 have h:=cV
 refine Jd<|Ob h λQ h cW=>Jo3 [1,2,3,4,9,10,12] (λE L w'=>∃κ' af aj,L=(11,.slice af Q.1.length aj)::E/\Stp [3,5] aD dy κ' w'/\Oc E6 2 κ' w' 5 af aj Q.1/\Oc Ep.bool 4 κ' w' 3 t u Q.2/\o.length=Q.2.length) ?_ ?_
 revert h
 cases d7:bI
 refine JF λh=>Jy R<|Js ?_
 cases h
 exact Jw1 _ ⟨aD,W,V,R,Jj3,(aJ.stp<|A.tr J),(ap.stp<|A.tr J),aw⟩<|KM R
 refine JT λh=>Jx R<|Jg3 [2,2,2,1] 2 R<|Ob h λeH dp h=>Jf R (Jf2 ap.rdc dp U178 Z4 R R aw R)<|Ob h λdH bD h=>Jk1 (κ:=aD) (E:=Ep.bool) 3 [] R R R R R R R R Z4 R R R R (ap.stp<|A.tr J) bD λet b9 aX cK=>Tv<|?_
 have db:o.length=dH.length:=aw.trans (Jt2 bD).2.2.2.symm
 refine Jd<|Jh3 [2,2,1,1,2] 2 R<|Jd4 (κ:=b9) 6 [n] R Y37 a8 R λdM dL ev ca aG cL=>Tv<|Ob h λeI dq h=>Jy3 (κ:=ca) (E:=E6) 5 [] R Y37 a8 R (aJ.stp<|T4 A J aX aG) (Sl.srcP (co _) cL.rdc) bZ dq R λch cm ex cc aY cM=>Tv<|Jc 1 R ?_
 cases h
 exact Jw1 _ ⟨cc,ch,cm,R,(T3 aX aG aY).wk R,cM,(cK.stp<|aG.tr aY),db⟩<|KM R
 rintro _ es ⟨b8,af,aj,rfl,aW,cH,cI,da⟩
 have h:=cW
 refine Jz<|Jp<|Jf3 R ?_
 have df:cb .i64 (n+1)=n+1:=wr1 cY (Jm2 N) cX
 rw[df]
 have N:=Jm2 N
 cases h
 exact Jz1 λa ha=>⟨k,_,Ja3 _,⟨b8,n+1,(Q.1,Q.2,aN),af,aj,R,(T4 I A J aW).wk R,cH,cI,da,(cF.stp<|J.tr aW),c8,by omega,by omega,aM⟩,(ha.mm R)⟩
 rintro _ bR ⟨aC,m,ae,ai,rfl,H,cC,cD,c6,cE,c7,rfl⟩
 have h:=yI cR
 refine Jp<|Jq<|Je3 R<|Ob h λbM dc cN=>?_
 clear h
 refine Jo3 [9] (λE L w'=>∃κ',∃F:(List Int)×Int×(List Bool)×(List Int),∃bc a6,L=E/\Stp [3,4,5] aC bR κ' w'/\Oc E6 2 κ' w' 5 bc a6 F.1/\Oc Ep.bool 4 κ' w' 3 t u F.2.2.1/\o.length=F.2.2.1.length/\Oc E6 2 κ' w' 4 C B F.2.2.2/\q.length=F.2.2.2.length/\bM=eg F) ?_ ?_
 refine Jv<|Jp3 [1,2,4,9,10] (λk E L w'=>∃κ',∃c:(List Int)×Int×(List Bool)×(List Int),∃U X,L=(11,.slice U c.1.length X)::(13,vi c.2.1)::E/\Stp [3,4,5] aC bR κ' w'/\Oc E6 2 κ' w' 5 U X c.1/\Oc Ep.bool 4 κ' w' 3 t u c.2.2.1/\o.length=c.2.2.1.length/\Oc E6 2 κ' w' 4 C B c.2.2.2/\q.length=c.2.2.2.length/\bU (fP p0 p1 p2) k c=some bM) ⟨_,_,⟨aC,(m.1,(0:Int),m.2.1,m.2.2),ae,ai,R,Jj3,cC,cD,c6,cE,c7,dc⟩,(KM R)⟩ ?_
 rintro k _ bP ⟨aa,c,U,X,rfl,y,ak,bd,bm,be,bn,h⟩
 rcases k with _ | k
 cases h
 obtain⟨ec,h,bl⟩:=BI h;unfold fP at h
 refine Jq<|Jg3 [2,2,2,2] 2 R<|Jn3 R U37 R R<|Jb 1 R ?_
 revert h
 cases dY:decide (c.2.1<(c.1.length:Int))
 refine JF λh=>Jy R<|Jc1<|Jt<|Jt ?_
 cases h
 have h:=bl
 refine Jb1 ?_
 cases h
 exact Jw1 _ ⟨aa,(c.1,c.2.1,c.2.2.1,c.2.2.2),U,X,R,y.wk R,ak,bd,bm,be,bn,R⟩<|KM R
 refine JT λh=>Jx R<|Js<|Jp<|Jq<|Jv<|Jg3 [2,2,2,1,2] 2 R<|Ob h λdC bv h=>Jc3 R ak.rdc bv U37 Z2<|Jb3 R I2 (ak.rdc.gInt bv)<|Jb 1 R<|Je3 R<|Ob h λbK dd cO=>?_
 clear h
 refine Jo3 [1,2,4,9,10,13] (λE L w'=>∃κ',∃j:(List Int)×Int×(List Bool)×(List Int),∃ag ad,L=(11,.slice ag j.1.length ad)::E/\Stp [3,4,5] aa bP κ' w'/\Oc E6 2 κ' w' 5 ag ad j.1/\Oc Ep.bool 4 κ' w' 3 t u j.2.2.1/\o.length=j.2.2.1.length/\Oc E6 2 κ' w' 4 C B j.2.2.2/\q.length=j.2.2.2.length/\bK=eg j) ?_ ?_
 refine Jv<|Jp3 [1,2,4,9,10,13,14] (λk E L w'=>∃κ',∃d:(List Int)×Int×(List Bool)×(List Int),∃M K,L=(11,.slice M d.1.length K)::(15,vi d.2.1)::E/\Stp [3,4,5] aa bP κ' w'/\Oc E6 2 κ' w' 5 M K d.1/\Oc Ep.bool 4 κ' w' 3 t u d.2.2.1/\o.length=d.2.2.1.length/\Oc E6 2 κ' w' 4 C B d.2.2.2/\q.length=d.2.2.2.length/\bU (dR p0 p1 p2 dC) k d=some bK) ⟨_,_,⟨aa,(c.1,(0:Int),c.2.2.1,c.2.2.2),U,X,R,Jj3,ak,bd,bm,be,bn,dd⟩,(KM R)⟩ ?_
 rintro k _ ds ⟨aO,d,M,K,rfl,v,al,D,O,am,Z,h⟩
 rcases k with _ | k
 cases h
 obtain⟨ed,h,aL⟩:=BI h;unfold dR at h
 refine Jq<|Jg3 [2,2,1,2,2,1,2,2] 1 R<|Jd3 R U210 R Z31 ?_
 have an:=bg.stp (T6 p i e H y v)
 refine Jb3 R I31 (an.ld 3 R R)<|Jn 1 R<|Ob h λdD bw h=>Jc3 R aK bw U31 Z37 ?_
 have ao:=aK.stp (T7 x p i e H y v)
 obtain⟨dP,ee,dV,cZ⟩:=ao.gSl bw
 refine Jb3 R I37 cZ<|Jn3 R U37 R R<|Jb 1 R ?_
 revert h
 cases dZ:decide (d.2.1<(dD.length:Int))
 refine JF λh=>Jy R<|Jc1<|Jt<|Jt ?_
 cases h
 have h:=aL
 refine Jb1 ?_
 cases h
 exact Jw1 _ ⟨aO,(d.1,d.2.1,d.2.2.1,d.2.2.2),M,K,R,v.wk R,al,D,O,am,Z,R⟩<|KM R
 refine JT λh=>Jx R<|Js<|Jp<|Jq<|Jv<|Je [2,1,2,2,1,2,2,1,2] R<|Jd3 R U210 R Z31<|Jb3 R I31 (an.ld 3 R R)<|Jn 1 R<|Ob h λeJ bx h=>Jc3 R ao bx U31 Z37 ?_
 obtain⟨dQ,ef,bf,c0⟩:=ao.gSl bx
 refine Jb3 R I37 c0<|Jn 1 R<|Ob h λdE bz h=>Jc3 R bf bz U37 Z2<|Jb3 R I2 (bf.gInt bz)<|Jb 1 R<|Jq<|Jg3 [2,2,2,1,2,2,2,2,2,1,2,2,1,2,2,1,2,2] 2 R<|Ob h λdF bA h=>Jc3 R Y bA U178 Z4<|Jb3 R I4 ((Y.stp<|T7 x p i e H y v).gBool bA)<|Jn 2 R<|Ob h λbJ h cP=>Jf4 [1,2,4,9,10,11,13,14,15,16] 96 bJ aO ds [(6,2),(7,2),(8,2),(9,1),(10,2)] [(11,2),(12,1),(13,2),(14,2),(15,1),(16,2),(17,2)] tv ?_ ?_
 revert h
 cases d0:(!dF)
 refine JF λh=>Jn 2 R<|Ob h λeK bB h=>Jf R (Jf2 D.rdc bB U178 Z4 R R O R)<|Jb3 R I4 (D.rdc.gBool bB)<|Jn 1 R ?_
 cases h
 exact Jg4 tv R
 refine JT λh=>Jn 3 R<|Jz3 R<|Jn 1 R ?_
 cases h
 exact Jg4 tv R
 rintro _ dt _ ⟨rfl,aP,f⟩
 have h:=cP
 refine Jn 1 R<|Ob h λbG h cQ=>Jf4 [1,2,4,9,10,11,13,14,15,16] 103 bG aP dt [(12,1),(13,2),(14,2),(15,1),(16,2),(17,2)] [] tv ?_ ?_
 revert h
 cases d1:bJ
 have ac:=(T8 x p i e H y v f)
 refine JF λh=>Jb4 tv R (Jc4 (haE (an.stp f).cells) I210 Z210 R)<|Jn 2 R<|Ob h λey dg h=>Jr3 R C269 (oI (κ:=Mk aP) (p0:=p0) (Ji3<|av.stp ac) (Ji3<|bh.stp ac) (Ji3<|bi.stp ac) (Ji3<|ao.stp f) (Ji3<|bj.stp ac) dg) ?_
 rintro _ ej ⟨d8,rfl,cp⟩
 obtain⟨dK,cf,ea⟩:=Ji cp 6 R
 refine Tv<|Jn 2 R ?_
 cases h
 exact Jv1 _ tv ⟨R,_,cf.wk R⟩<|KM R
 refine JT λh=>Jz3 R<|Jn 2 R<|Jz3 R<|Jn 2 R ?_
 cases h
 exact Jg4 tv R
 rintro _ ek _ ⟨rfl,aQ,s⟩
 have h:=cQ
 refine Jd ?_
 revert h
 cases d2:bG
 refine JF λh=>Jy R<|Js<|Jp<|Jg3 [2,2,2,1,2,2,1] 2 R<|Ob h λez bp h=>Jf R (Jf2 am.rdc bp U37 Z2 R R Z R) ?_
 have aH:=am.stp (f.tr s)
 refine Jb3 R I2 (aH.rdc.gInt bp)<|Jn 1 R<|Ob h λeA dh h=>Jf R (Jf2 aH.rdc dh U37 Z2 R R Z R)<|Ob h λbS bE h=>Jk1 (κ:=aQ) (E:=E6) 4 [] R R R R R R R R Z2 R R R R aH bE λdu bX G aI=>Tv<|?_
 have bo:q.length=bS.length:=Z.trans (Jt2 bE).2.2.2.symm
 refine Jd<|Je [2,1,2,2,1,2,2,2,2,2,2,1,2,2] R<|Jd3 R U210 R Z37<|Jb3 R I37 ((an.stp<|T3 f s G).ld 0 R R)<|Jn 1 R<|Ob h λdz bq h=>Jc3 R av bq U37 Z2<|Jb3 R I2 ((av.stp<|T10 x p i e H y v f s G).gInt bq)<|Jn 3 R<|Ob h λbH h cS=>Jf4 [1,2,4,9,10,11,13,14,15,16] 123 bH bX du [(8,2),(9,2),(10,2),(11,1),(12,2),(13,2)] [] tv ?_ ?_
 revert h
 cases d3:(dz==p2)
 refine JF λh=>Jn 2 R<|Ob h λeB br h=>Jf R (Jf2 aI.rdc br U37 Z2 R R bo R)<|Jb3 R I2 (aI.rdc.gInt br)<|Jn 2 R ?_
 cases h
 exact Jg4 tv R
 refine JT λh=>Jn 3 R<|Jz3 R<|Jn 2 R ?_
 cases h
 exact Jg4 tv R
 rintro _ dv _ ⟨rfl,aB,T⟩
 have h:=cS
 refine Jd<|Ob h λP h cT=>Jo3 [1,2,4,9,10,13,14,15] (λE L w'=>∃κ' ar ah,L=(11,.slice ar P.1.length ah)::E/\Stp [3,5] aB dv κ' w'/\Oc E6 2 κ' w' 5 ar ah P.1/\Oc Ep.bool 4 κ' w' 3 t u P.2/\o.length=P.2.length) ?_ ?_
 revert h
 cases d4:bH
 refine JF λh=>Jy R<|Js ?_
 cases h
 have aR:=(T4 f s G T)
 exact Jw1 _ ⟨aB,M,K,R,Jj3,(al.stp aR),(D.stp aR),O⟩<|KM R
 refine JT λh=>Jx R<|Jg3 [2,2,2,1] 2 R<|Ob h λeC di h=>Jf R (Jf2 D.rdc di U178 Z4 R R O R)<|Ob h λdJ bF h=>Jk1 (κ:=aB) (E:=Ep.bool) 3 [] R R R R R R R R Z4 R R R R (D.stp<|T4 f s G T) bF λem b0 aT cz=>Tv<|?_
 have c5:o.length=dJ.length:=O.trans (Jt2 bF).2.2.2.symm
 refine Jd<|Jh3 [2,2,1,1,2] 2 R<|Jd4 (κ:=b0) 6 [dE] R Y37 a8 R λdN dO en b2 aF cA=>Tv<|Ob h λeD dj h=>Jy3 (κ:=b2) (E:=E6) 5 [] R Y37 a8 R (al.stp<|T6 f s G T aT aF) (Sl.srcP (co _) cA.rdc) bZ dj R λcl ck eo b3 aU cB=>Tv<|Jc 1 R ?_
 cases h
 exact Jw1 _ ⟨b3,cl,ck,R,(T3 aT aF aU).wk R,cB,(cz.stp<|aF.tr aU),c5⟩<|KM R
 rintro _ el ⟨bY,ar,ah,rfl,aS,cx,cy,c4⟩
 have h:=cT
 refine Jz<|Jp<|Jf3 R ?_
 cases h
 exact Jz1 λa ha=>⟨k,_,Ja3 _,⟨bY,(P.1,((IntKind.i64.wrap<|d.2.1+1):Int),P.2,bS),ar,ah,R,(T6 v f s G T aS).wk R,cx,cy,c4,(aI.stp<|T.tr aS),bo,aL⟩,(ha.mm R)⟩
 refine JT λh=>Jx R<|Jc1<|Jt<|Jb1<|Jp<|Jf3 R ?_
 cases h
 have aE:=(f.tr s)
 exact Jz1 λa ha=>⟨k,_,Ja3 _,⟨aQ,(d.1,((IntKind.i64.wrap<|d.2.1+1):Int),d.2.2.1,d.2.2.2),M,K,R,(T3 v f s).wk R,(al.stp aE),(D.stp aE),O,(am.stp aE),Z,aL⟩,(ha.mm R)⟩
 rintro _ ei ⟨bW,j,ag,ad,rfl,ce,ct,cu,c2,cv,c3,rfl⟩
 have h:=yI cO
 refine Jz<|Jp<|Jf3 R ?_
 cases h
 exact Jz1 λa ha=>⟨k,_,Ja3 _,⟨bW,(j.1,((IntKind.i64.wrap<|c.2.1+1):Int),j.2.2.1,j.2.2.2),ag,ad,R,(y.tr ce).wk R,ct,cu,c2,cv,c3,bl⟩,(ha.mm R)⟩
 rintro _ eh ⟨bV,F,bc,a6,rfl,cd,dT,cr,c1,dU,dX,rfl⟩
 have h:=yI cN
 refine Jp<|Je3 R<|Ju<|Ja2 (l:=[.tmp 8]) V272 (Jp2 R R) R ?_
 cases h
 exact⟨(λb=>ren [(3,2)]<|bV b),t,u,(by simp only[c1]),((hE.stp<|T6 x p i e H cd).map (ren [(3,2)]) R R),(cr.map (ren [(3,2)]) R R)⟩
theorem qa {s I}{p0:(List (List Int))}{u x t v}{p1:Pair}(W:Rd (Rp.sl (Rp.int .i64)) κ w 0 s I p0) (n:Rd (Rp.int .i64) κ w 0 u x p1.Ask) (X:Rd (Rp.int .i64) κ w 0 t v p1.Give){r:Int}(h:ic p0 p1=some r):Ret Tryz.prog 147 [.slice s p0.length I,.agg #[.slice u p1.Ask.length x,.slice t p1.Give.length v]] w (Pvi κ w r):=by
 unfold ic at h
 refine Jk3 κ F147 R N147 R λhE=>Je [1,2] R<|Js3 (κ:=κ) 2 R λar w1 M f m=>Tv<|Jb 1 R<|Jg3 [2,2,2,1,1,2] 1 R<|Jn3 R U31 R R<|Jd3 R U127 R Z37<|Jb3 R I37 (m.ld 1 R R)<|Ob h λak ad h=>Jr3 R C207 (tz (κ:=Mk M) (Ji3<|X.stp f) ad) ?_
 rintro _ J ⟨k7,ap,aq,rfl,T,V⟩
 obtain⟨i,d,ag⟩:=Ji T 3 R
 refine Tv<|?_
 have y:=V.mx dV ag R (R:3+2=5)
 refine Jb 1 R<|Jq<|Je3 R ?_
 have Z:(p1.Ask.length:Int)<=9223372036854775807:=n.len_le
 refine Ob h λH ab C=>?_
 clear h
 refine Jx1 (λL w'=>∃κ',L=[]/\Stp [] i J κ' w'/\H=eg ()) ?_ ?_
 refine Jv<|Jp3 [0,3,5] (λk E L w'=>∃κ' b,L=(6,vi b)::E/\Stp [] i J κ' w'/\0<=b/\n6 ((p1.Ask.length:Int)-b)=k/\cntM (du p0 p1 ak) k b ()=some H) ⟨_,_,⟨i,0,R,Jj3,(by decide),(by simp),ab⟩,(KM R)⟩ ?_
 rintro k _ aj ⟨j,b,rfl,c,aa,au,h⟩
 rcases k with _ | k
 have g:=h;obtain⟨ai,h⟩:=cn (eg (Sum.inl ()):Int⊕((Unit)⊕(Unit)))
 have e:decide (b<(p1.Ask.length:Int))=false:=Jo2 (by omega)
 refine Jq<|Jg3 [2,2,1,2,2] 1 R<|Jd3 R U127 R Z37<|Jb3 R I37 ((m.stp<|d.tr c).ld 0 R R)<|Jn3 R U37 R R<|Jb 1 R<|Jw2 R e<|Jc1<|Jt<|Jt ?_
 cases h
 have h:=g
 refine Jb1 ?_
 cases h
 exact Jw1 _ ⟨j,R,c.wk R,R⟩ KN
 obtain⟨ai,h,g⟩:=BI h;unfold du at h
 have e:decide (b<(p1.Ask.length:Int))=true:=Jn2 (by omega)
 refine Jq<|Jg3 [2,2,1,2,2] 1 R<|Jd3 R U127 R Z37 ?_
 have z:=m.stp (d.tr c)
 refine Jb3 R I37 (z.ld 0 R R)<|Jn3 R U37 R R<|Jb 1 R<|Jv2 R e<|Js<|Jp<|Jq<|Jv<|Je [2,1,2,2,1,2] R<|Jd3 R U127 R Z37<|Jb3 R I37 (z.ld 0 R R)<|Jn 1 R<|Ob h λaE D h=>Jc3 R n D U37 Z2<|Jb3 R I2 ((n.stp<|T3 f d c).gInt D)<|Jb 1 R<|Jg3 [2,2,2,1,2,2,2,2,2,1,2,1,2] 2 R<|Ob h λal F h=>Jc3 R y.rdc F U178 Z4 ?_
 have A:=y.stp c
 refine Jb3 R I4 (A.rdc.gBool F)<|Jn 1 R<|Ob h λG h Y=>Jf4 [0,3,5,6,7] 37 G j aj [(5,2),(6,2),(7,2),(8,2),(9,1),(10,2),(11,1),(12,2)] [] tv ?_ ?_
 revert h
 cases av:al
 refine JF λh=>Jn 4 R<|Jz3 R<|Jn 1 R<|Jz3 R<|Jn 1 R ?_
 cases h
 exact Jg4 tv R
 refine JT λh=>Jn 4 R<|Ob h λaF ae h=>?_
 have B:=W.stp (T3 f d c)
 refine Jr3 R C209 (tx (κ:=Mk j) (Ji3 B) (Ji3 A.rdc) ae) ?_
 rintro _ aB ⟨ax,an,ao,rfl,Q,U⟩
 obtain⟨N,p,ah⟩:=Ji Q 6 R
 refine Tv<|Jn 1 R<|Ob h λaG af h=>Jr3 R C208 (oP (κ:=Mk N) (Ji3<|B.stp p) (Ji3 (U.mx (bX _) ah R (R:6+2=8)).rdc) af) ?_
 rintro _ aC ⟨ay,rfl,S⟩
 obtain⟨am,P,az⟩:=Ji S 9 R
 refine Tv<|Jn 1 R ?_
 cases h
 exact Jv1 _ tv ⟨R,_,(p.tr P).wk R⟩<|KM R
 rintro _ aD _ ⟨rfl,o,q⟩
 have h:=Y
 refine Jd ?_
 revert h
 cases aw:G
 refine JF λh=>Jy R<|Js<|Jz<|Jp<|Jf3 R ?_
 have ac:cb .i64 (b+1)=b+1:=wr1 aa (Jm2 e) Z
 rw[ac]
 have e:=Jm2 e
 cases h
 exact Jz1 λa ha=>⟨k,_,Ja3 _,⟨o,b+1,R,(c.tr q).wk R,by omega,by omega,g⟩,(ha.mm R)⟩
 refine JT λh=>Jx R<|Je3 R<|Ju<|Ja1<|Jw<|Jw ?_
 cases h
 obtain rfl:=Option.some.inj g
 have h:=yL C
 refine Ja1<|Jq2<|Jw<|Ja2 (l:=[.tmp 4]) V147 (Jp2 R R) R ?_
 cases h
 exact⟨o,R,(hE.stp<|T4 f d c q)⟩
 rintro _ aA ⟨K,rfl,O,rfl⟩
 have h:=yI C
 refine Jp<|Je3 R<|Ju<|Ja2 (l:=[.tmp 4]) V147 (Jp2 R R) R ?_
 cases h
 exact⟨K,R,(hE.stp<|T3 f d O)⟩
end Go.Proofs.YtleekpaohfpooaaGreat
