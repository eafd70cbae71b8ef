/- The walks, part 4. By program. -/
import Derived.Test.YtgbippnfaoedmaaGreatDoorFns3BG
set_option linter.unusedVariables false
set_option linter.unusedSimpArgs false
open Go.Wk.Ep renaming bool → zo
open Int renaming toNat → zq
open List renaming cons_append → zy, nil_append → zz
open Sum renaming inr → zw
namespace Go.Proofs.YtgbippnfaoedmaaGreatDoor
open Tryz
open Go Go.Wk Go.Proofs
set_option maxRecDepth 100000
set_option maxHeartbeats 1000000
section
variable {w:World}{J:Col}
theorem oF {c d}{p0:VI}{p1:Int}(k:Rd Ri J w 0 c d p0){r:Bool}(h:kV p0 p1=some r):Ret prog 47 [.slice c p0.length d,vi p1] w (Pvb J w r):=by
 unfold kV at h
 refine Jp3 J func47 R ntmps47 R λm=>Jf3 R<|Jl3 1 R<|Ob h λt p h=>Jw3 R call15 (iA (J:=Mk J) p) ?_
 rintro _ s ⟨y,rfl,j⟩
 obtain⟨a,b,A⟩:=Ji j 2 R
 refine Tv<|Jn 1 R<|Ob h λq h n=>Jk4 [4] 11 q a s 4 tv ?_ ?_
 revert h
 cases v:t
 refine JF λh=>Jn 2 R<|Je4 R<|Jn 1 R ?_
 cases h
 exact Jl4 tv R
 refine JT λh=>Jn 2 R<|Ob h λD o h=>Jw3 R call48 (oK (J:=Mk a) (Jn3<|k.stp b) o) ?_
 rintro _ B ⟨x,rfl,i⟩
 obtain⟨u,f,z⟩:=Ji i 4 R
 refine Tv<|Jn 1 R ?_
 cases h
 exact Jv1 _ tv ⟨R,_,f.wk R⟩<|KM R
 rintro _ C _ ⟨rfl,e,g⟩
 have h:=n
 refine Jb 1 R<|Ju<|Jb2 (l:=[.tmp 4]) results47 (Jq2 R R) R ?_
 cases h
 exact⟨e,R,(m.stp<|b.tr g)⟩
theorem qB {D E F G}{p0:Arena}(t:Rd Ri J w 0 D E p0.Owner) (g:Rd Rs J w 0 F G p0.Next){r:Bool}(h:jF p0=some r):Ret prog 25 [.agg #[.slice D p0.Owner.length E,.slice F p0.Next.length G]] w (Pvb J w r):=by
 unfold jF at h
 refine Jp3 J func25 R ntmps25 R λu=>Jj3<|Jx3 J 2 R λaG aY X e p=>Tv<|Jb 1 R<|Jj3<|Je3 R U30 R Z27<|Jc3 R I27 (p.ld 0 R R)<|Js3 R U27 R R<|Jb 1 R<|Jq<|Jl3 1 R<|Ob h λaB au h=>Jw3 R call15 (iA (J:=Mk X) au) ?_
 rintro _ ay ⟨aQ,rfl,ag⟩
 obtain⟨ab,a,aS⟩:=Ji ag 3 R
 refine Tv<|Jn 2 R<|Ob h λP h ai=>Jk4 [1,3] 19 P ab ay 8 tv ?_ ?_
 revert h
 cases aJ:(!aB)
 refine JF λh=>Je3 R U30 R Z28 ?_
 have H:=p.stp a
 refine Jc3 R I28 (H.ld 1 R R)<|Js3 R U28 R R<|Je3 R U30 R Z27<|Jc3 R I27 (H.ld 0 R R)<|Js3 R U27 R R<|Jn 2 R ?_
 cases h
 exact Jl4 tv R
 refine JT λh=>Jn 1 R<|Je4 R<|Jn 2 R<|Je4 R<|Jn 3 R ?_
 cases h
 exact Jl4 tv R
 rintro _ V _ ⟨rfl,n,b⟩
 have h:=ai
 refine Jd ?_
 revert h
 cases aK:P
 refine JF λh=>Jy R<|Js<|Jp<|Jq<|Jf3 R<|Ob h λU ap I=>?_
 clear h
 refine Jx1 (λs x=>∃y,s=[]/\Stp [] n V y x/\U=zw ()) ?_ ?_
 refine Jv<|Ju3 [1,3] (λm W s x=>∃y i,s=(4,vi i)::W/\Stp [] n V y x/\0<=i/\zq ((p0.Owner.length:Int)-i)=m/\cntM (fU p0) m i ()=some U) ⟨_,_,⟨n,0,R,Jo3,(by decide),(by simp),ap⟩,(KM R)⟩ ?_
 rintro m _ a0 ⟨z,i,rfl,c,K,q,h⟩
 rcases m with _|m
 have k:=h;obtain⟨av,h⟩:=exq k
 have v:=dcf q
 refine Jq<|Jl3 1 R<|Je3 R U30 R Z27<|Jc3 R I27 ((p.stp<|T3 a b c).ld 0 R R)<|Js3 R U27 R R<|Jb 1 R<|Jx2 R v<|Jc1<|Jt<|Jt ?_
 cases h
 have h:=k
 refine Jb1 ?_
 cases h
 exact Jw1 _ ⟨z,R,c.wk R,R⟩ KN
 obtain⟨av,h,k⟩:=BI h;unfold fU at h
 have v:=dct q
 refine Jq<|Jl3 1 R<|Je3 R U30 R Z27 ?_
 have j:=p.stp (T3 a b c)
 refine Jc3 R I27 (j.ld 0 R R)<|Js3 R U27 R R<|Jb 1 R<|Jw2 R v<|Js<|Jp<|Jq<|Jv<|Jj3<|Je3 R U30 R Z27<|Jc3 R I27 (j.ld 0 R R)<|Jn 1 R<|Ob h λa3 L h=>Jd3 R t L U27 Z2<|Jc3 R I2 ((t.stp<|T4 e a b c).gInt L)<|Ob h λaA aq h=>Jw3 R call15 (iA (J:=Mk z) aq) ?_
 rintro _ aw ⟨aP,rfl,ae⟩
 obtain⟨Z,d,aT⟩:=Ji ae 5 R
 refine Tv<|Jn 2 R<|Ob h λQ h aj=>Jk4 [1,3,4] 42 Q Z aw 8 tv ?_ ?_
 revert h
 cases aL:(!aA)
 refine JF λh=>Je3 R U30 R Z28<|Jc3 R I28 ((j.stp d).ld 1 R R)<|Jn 1 R<|Ob h λa4 M h=>Jd3 R g M U28 Z27 ?_
 obtain⟨aD,aV,aH,am⟩:=(g.stp (T5 e a b c d)).gSl M
 refine Jc3 R I27 am<|Js3 R U27 R R<|Jn 2 R ?_
 cases h
 exact Jl4 tv R
 refine JT λh=>Jn 1 R<|Je4 R<|Jn 2 R<|Je4 R<|Jn 3 R ?_
 cases h
 exact Jl4 tv R
 rintro _ ax _ ⟨rfl,aa,f⟩
 have h:=aj
 refine Jn 1 R<|Ob h λS h ak=>Jk4 [1,3,4] 51 S aa ax 8 tv ?_ ?_
 revert h
 cases aM:Q
 refine JF λh=>Je3 R U30 R Z28<|Jc3 R I28 ((j.stp<|d.tr f).ld 1 R R)<|Jn 1 R<|Ob h λa5 N h=>Jd3 R g N U28 Z27 ?_
 obtain⟨aE,aW,aI,an⟩:=(g.stp (T6 e a b c d f)).gSl N
 refine Jc3 R I27 an<|Js3 R U27 R R<|Jn 2 R ?_
 cases h
 exact Jl4 tv R
 refine JT λh=>Jn 1 R<|Je4 R<|Jn 2 R<|Je4 R<|Jn 3 R ?_
 cases h
 exact Jl4 tv R
 rintro _ az _ ⟨rfl,A,o⟩
 have h:=ak
 refine Jn 1 R<|Ob h λT h al=>Jk4 [1,3,4] 61 T A az 9 tv ?_ ?_
 revert h
 cases aN:S
 refine JF λh=>Je3 R U30 R Z28<|Jc3 R I28 ((j.stp<|T3 d f o).ld 1 R R)<|Jn 1 R<|Ob h λa6 O h=>Jd3 R g O U28 Z27 ?_
 obtain⟨aF,aX,ah,ao⟩:=(g.stp (T7 e a b c d f o)).gSl O
 refine Jc3 R I27 ao<|Jn 1 R<|Ob h λa7 ar h=>Jw3 R call48 (oK (J:=Mk A) (Jn3 ah) ar) ?_
 rintro _ a1 ⟨aR,rfl,af⟩
 obtain⟨aC,ad,aU⟩:=Ji af 7 R
 refine Tv<|Jn 2 R ?_
 cases h
 exact Jv1 _ tv ⟨R,_,ad.wk R⟩<|KM R
 refine JT λh=>Jn 1 R<|Je4 R<|Jn 2 R<|Je4 R<|Jn 1 R<|Je4 R<|Jn 2 R ?_
 cases h
 exact Jl4 tv R
 rintro _ a2 _ ⟨rfl,B,C⟩
 have h:=al
 refine Jd ?_
 revert h
 cases aO:T
 refine JF λh=>Jy R<|Js<|Jz<|Jp<|Jg3 R<|wr2 K q t.len_le ▸ ?_
 cases h
 exact Ja2 ⟨B,i+1,R,(T5 c d f o C).wk R,nxz K,nxm q,k⟩ R
 refine JT λh=>Jx R<|Jf3 R<|Ju<|Ja1<|Jw<|Jw ?_
 cases h
 obtain rfl:=Option.some.inj k
 have h:=yL I
 refine Ja1<|Jr2<|Jw<|Jb2 (l:=[.tmp 2]) results25 (Jq2 R R) R ?_
 cases h
 exact⟨B,R,(u.stp<|T8 e a b c d f o C)⟩
 rintro _ aZ ⟨Y,rfl,ac,rfl⟩
 have h:=yI I
 refine Jp<|Jf3 R<|Ju<|Jb2 (l:=[.tmp 2]) results25 (Jq2 R R) R ?_
 cases h
 exact⟨Y,R,(u.stp<|T4 e a b ac)⟩
 refine JT λh=>Jx R<|Jf3 R<|Ju<|Jw<|Jb2 (l:=[.tmp 2]) results25 (Jq2 R R) R ?_
 cases h
 exact⟨n,R,(u.stp<|T3 e a b)⟩
theorem oL (n:Nat):∀{w:World}{J:Col}{ag Z aa ah af Y ae ad ac ab}{p0:l7Game}{X av}{p1:VB}(aM:Rd Ri J w 0 ag Z p0.owner) (aN:Rd Ri J w 0 aa ah p0.prio) (aO:Rd Rs J w 0 af Y p0.next) (aP:Rd Rs J w 0 ae ad p0.prev) (aQ:Rd Ri J w 0 ac ab p0.pick) (aR:Rd Rp.bool J w 0 X av p1){r:VB}(h:jf n p0 p1=some r),Ret prog 51 [.agg #[.slice ag p0.owner.length Z,.slice aa p0.prio.length ah,.slice af p0.next.length Y,.slice ae p0.prev.length ad,.slice ac p0.pick.length ab],.slice X p1.length av] w (Pvs zo 4 J w r):=by
 induction n with
 |zero=>
  intro w J ag Z aa ah af Y ae ad ac ab p0 X av p1 aM aN aO aP aQ aR r h
  cases h
 |succ n b0=>
  intro w J ag Z aa ah af Y ae ad ac ab p0 X av p1 aM aN aO aP aQ aR r h
  have h:gr (jf n) p0 p1=some r:=h
  unfold gr at h
  refine Jp3 J func51 R ntmps51 R λaS=>Jj3<|Jx3 J 2 R λei ez cn s aK=>Tv<|Jb 1 R<|Jj3<|Jg4 tv R (Jh4 (haE aK.cells) I69 Z69 R)<|Jn 1 R<|Ob h λQ du h=>?_
  have bo:=aM.stp s
  have ai:=aN.stp s
  have bw:=aO.stp s
  have bx:=aP.stp s
  have bF:=aQ.stp s
  have M:=aR.stp s
  refine Jw3 R call93 (sZ (J:=Mk cn) (p0:=p0) (Jn3 bo) (Jn3 ai) (Jn3 bw) (Jn3 bx) (Jn3 bF) (Jn3 M) du) ?_
  rintro _ eA ⟨er,rfl,cE⟩
  obtain⟨cj,k,ey⟩:=Ji cE 3 R
  refine Tv<|Jb 1 R<|Jl3 1 R<|Js3 R U71 R R<|Ob h λv dv h=>Jl1 (J:=cj) (E:=zo) (z:=(false:Bool)) 5 R R R R R R R Y71 bZ R R R R R (λ_ _ _=>R) (Jv2 dv) λx y eH a3 m aH=>Tv<|Jb 1 R<|Jq<|Jf3 R ?_
  revert h
  cases en:decide (Q<0)
  refine JF λh=>Jy R<|Js<|Jp<|Jl3 1 R<|Jf R (c7 R R R<|show ¬(2:Int)=0 by decide) (Jb 1 R<|Jl3 1 R<|Js3 R U71 R R<|Ob h λaw dw h=>Jl1 (J:=a3) (E:=zo) (z:=(false:Bool)) 6 R R R R R R R Y71 bZ R R R R R (λ_ _ _=>R) (Jv2 dw) λbd be b9 aA g cU=>Tv<|Jb 1 R<|Jq<|Jf3 R<|Ob h λb3 dm c9=>?_)
  clear h
  refine Jt3 [1,2,6,7,8] (λd e b=>∃c,∃ar:VB,e=d/\Stp [6] aA b9 c b/\Oc zo 4 c b 6 bd be ar/\aw.length=ar.length/\b3=zw ar) ?_ ?_
  refine Jv<|Ju3 [1,2,5,6,7,8] (λa d e b=>∃c H,∃N:VB,e=(9,vi H)::d/\Stp [6] aA b9 c b/\Oc zo 4 c b 6 bd be N/\aw.length=N.length/\0<=H/\zq ((p1.length:Int)-H)=a/\cntM (iR p0 p1 Q) a H N=some b3) ⟨_,_,⟨aA,0,aw,R,Jo3,cU,R,(by decide),(by simp),dm⟩,(KM R)⟩ ?_
  rintro a _ dV ⟨a4,H,N,rfl,W,aJ,aZ,bK,al,h⟩
  rcases a with _|a
  have ap:=h;obtain⟨dM,h⟩:=exq ap
  have aV:=dcf al
  refine Jq<|Jl3 2 R<|Js3 R U71 R R<|Jb 1 R<|Jx2 R aV<|Jc1<|Jt<|Jt ?_
  cases h
  have h:=ap
  refine Jb1 ?_
  cases h
  exact Jw1 _ ⟨a4,N,R,W.wk R,aJ,aZ,R⟩<|KM R
  obtain⟨dM,h,ap⟩:=BI h;unfold iR at h
  have aV:=dct al
  refine Jq<|Jl3 2 R<|Js3 R U71 R R<|Jb 1 R<|Jw2 R aV<|Js<|Jp<|Jq<|Jv<|Jm3 4 R<|Ob h λd1 bP h=>Jd3 R M bP U71 Z4<|Jc3 R I4 ((M.stp<|T4 k m g W).gBool bP)<|Jn 1 R<|Ob h λdQ h da=>Jk4 [1,2,5,6,7,8,9,39,40] 53 dQ a4 dV 8 tv ?_ ?_
  revert h
  cases eq:d1
  refine JF λh=>Jn 1 R<|Je4 R<|Jn 2 R<|Je4 R<|Jn 3 R ?_
  cases h
  exact Jl4 tv R
  have a5:=(T4 k m g W)
  refine JT λh=>Je3 R U69 R Z27<|Jc3 R I27 ((aK.stp a5).ld 1 R R)<|Jn 1 R<|Ob h λeX bQ h=>Jd3 R ai bQ U27 Z2<|Jc3 R I2 ((ai.stp a5).gInt bQ)<|Jn 3 R ?_
  cases h
  exact Jl4 tv R
  rintro _ eP _ ⟨rfl,cs,ba⟩
  have h:=da
  refine Ob h λeY dx h=>Jf R (Jg2 aJ.rdc dx U71 Z4 R R aZ R)<|Ob h λcc bW h=>Jk1 (J:=cs) (E:=zo) 6 [] R R R R R R R R Z4 R R R R (aJ.stp ba) bW λeQ ct cD cW=>Tv<|?_
  have di:aw.length=cc.length:=aZ.trans (Ju2 bW).2.2.2.symm
  refine Jo<|Jz<|Jp<|Jg3 R<|wr2 bK al M.len_le ▸ ?_
  cases h
  exact Ja2 ⟨ct,H+1,cc,R,(T3 W ba cD).wk R,cW,di,nxz bK,nxm al,ap⟩ R
  rintro _ eO ⟨cr,ar,rfl,p,cV,dh,rfl⟩
  have h:=yI c9
  refine Jp<|Jl3 1 R ?_
  have bp:=aK.stp (T4 k m g p)
  refine Jg4 tv R (Jh4 (haE bp.cells) I69 Z69 R)<|Jn 3 R<|Ob h λeZ dy h=>?_
  have bq:=bo.stp (T4 k m g p)
  have br:=ai.stp (T4 k m g p)
  have bs:=bw.stp (T4 k m g p)
  have bt:=bx.stp (T4 k m g p)
  have bu:=bF.stp (T4 k m g p)
  have bv:=M.stp (T4 k m g p)
  refine Jw3 R call95 (Ret.cast (by simp only[dh,zy,zz])<|kC (J:=Mk cr) (p0:=p0) (Jn3 bq) (Jn3 br) (Jn3 bs) (Jn3 bt) (Jn3 bu) (Jn3 bv) (Jn3 cV.rdc) dy) ?_
  rintro _ eR ⟨ev,ee,ef,rfl,cI,cX⟩
  obtain⟨cu,q,dG⟩:=Ji cI 7 R
  refine Tv<|Ob h λd2 dz h=>?_
  have C:=bv.stp q
  refine Jw3 R call94 (nj (J:=Mk cu) (Jn3 C) (Jn3 (cX.mx bU dG R (R:7+2=9)).rdc) dz) ?_
  rintro _ eS ⟨ew,d9,eb,rfl,cJ,cY⟩
  obtain⟨cv,o,dH⟩:=Ji cJ 10 R
  refine Tv<|?_
  have aL:=cY.mx bU dH R (R:10+2=12)
  refine Jb 1 R<|Jj3 ?_
  have bz:=bp.stp (q.tr o)
  refine Jg4 tv R (Jh4 (haE bz.cells) I69 Z69 R)<|Jn 1 R<|Ob h λd3 dA h=>?_
  have bA:=bq.stp (q.tr o)
  have bB:=br.stp (q.tr o)
  have bC:=bs.stp (q.tr o)
  have bD:=bt.stp (q.tr o)
  have bE:=bu.stp (q.tr o)
  refine Jw3 R call51 (b0 (J:=Mk cv) (p0:=p0) (Jn3 bA) (Jn3 bB) (Jn3 bC) (Jn3 bD) (Jn3 bE) (Jn3 aL.rdc) dA) ?_
  rintro _ eT ⟨ex,d7,ed,rfl,cK,cZ⟩
  obtain⟨cw,i,dI⟩:=Ji cK 13 R
  refine Tv<|?_
  have bG:=cZ.mx bU dI R (R:13+2=15)
  refine Jb 1 R<|Jl3 1 R<|Js3 R U71 R R<|Ob h λax dB h=>Jl1 (J:=cw) (E:=zo) (z:=(false:Bool)) 16 R R R R R R R Y71 bZ R R R R R (λ_ _ _=>R) (Jv2 dB) λbb bc ca aB f cL=>Tv<|Jb 1 R<|Jf3 R<|Jq<|Jf3 R<|Ob h λb4 dj c0=>?_
  clear h
  refine Jt3 [1,2,6,7,12] (λd e b=>∃c,∃E:Bool×VB,e=(13,.bool E.1)::d/\Stp [16] aB ca c b/\Oc zo 4 c b 16 bb bc E.2/\ax.length=E.2.length/\b4=zw E) ?_ ?_
  refine Jv<|Ju3 [1,2,6,7,10,11,12] (λa d e b=>∃c u,∃t:Bool×VB,e=(13,.bool t.1)::(14,vi u)::d/\Stp [16] aB ca c b/\Oc zo 4 c b 16 bb bc t.2/\ax.length=t.2.length/\0<=u/\zq ((p1.length:Int)-u)=a/\cntM (gq Q d2 d3) a u t=some b4) ⟨_,_,⟨aB,0,(false,ax),R,Jo3,cL,R,(by decide),(by simp),dj⟩,(KM R)⟩ ?_
  rintro a _ dS ⟨a0,u,t,rfl,T,aD,aW,db,bH,h⟩
  rcases a with _|a
  have am:=h;obtain⟨dJ,h⟩:=exq am
  have D:=dcf bH
  refine Jq<|Jl3 2 R<|Js3 R U71 R R<|Jb 1 R<|Jx2 R D<|Jc1<|Jt<|Jt ?_
  cases h
  have h:=am
  refine Jb1 ?_
  cases h
  exact Jw1 _ ⟨a0,(t.1,t.2),R,T.wk R,aD,aW,R⟩<|KM R
  obtain⟨dJ,h,am⟩:=BI h;unfold gq at h
  have D:=dct bH
  refine Jq<|Jl3 2 R<|Js3 R U71 R R<|Jb 1 R<|Jw2 R D<|Js<|Jp<|Jq<|Jv<|Jl3 4 R<|Ob h λd4 bR h=>Jd3 R aL.rdc bR U71 Z4<|Jc3 R I4 ((aL.stp<|T3 i f T).rdc.gBool bR)<|Jn 1 R<|Ob h λdR h c1=>Jk4 [1,2,6,7,10,11,12,13,14,74,75] 88 dR a0 dS 8 tv ?_ ?_
  revert h
  cases ej:d4
  refine JF λh=>Jn 3 R<|Je4 R<|Jn 4 R ?_
  cases h
  exact Jl4 tv R
  refine JT λh=>Jn 2 R<|Ob h λe0 bS h=>Jd3 R bG.rdc bS U71 Z4<|Jc3 R I4 ((bG.stp<|f.tr T).rdc.gBool bS)<|Jn 2 R<|Jf R (nQ R R U4 R)<|Jn 1 R ?_
  cases h
  exact Jl4 tv R
  rintro _ eB _ ⟨rfl,cf,a6⟩
  have h:=c1
  refine Ob h λe1 dC h=>Jf R (Jg2 aD.rdc dC U71 Z4 R R aW R)<|Ob h λcd bX h=>Jk1 (J:=cf) (E:=zo) 16 [] R R R R R R R R Z4 R R R R (aD.stp a6) bX λdT cg cx aE=>Tv<|?_
  have bL:ax.length=cd.length:=aW.trans (Ju2 bX).2.2.2.symm
  refine Jd<|Jm3 2 R<|Ob h λb1 h c2=>Jk4 [1,2,6,7,10,11,12,13,14] 96 b1 cg dT 5 tv ?_ ?_
  revert h
  cases ek:t.1
  refine JF λh=>Jn 2 R<|Ob h λe2 bT h=>Jf R (Jg2 aE.rdc bT U71 Z4 R R bL R)<|Jc3 R I4 (aE.rdc.gBool bT)<|Jn 1 R ?_
  cases h
  exact Jl4 tv R
  refine JT λh=>Jn 3 R<|Je4 R<|Jn 1 R ?_
  cases h
  exact Jl4 tv R
  rintro _ eC _ ⟨rfl,ch,a7⟩
  have h:=c2
  refine Jc 1 R<|Jz<|Jp<|Jg3 R ?_
  have dn:IntKind.wrap .i64 (u+1)=u+1:=wr1 db (Jn2 D) C.len_le
  rw[dn]
  have D:=Jn2 D
  cases h
  exact Ja2 ⟨ch,u+1,(b1,cd),R,(T4 T a6 cx a7).wk R,(aE.stp a7),bL,by omega,by omega,am⟩ R
  rintro _ b6 ⟨S,E,rfl,j,cM,dc,rfl⟩
  have h:=yI c0
  refine Jp<|Jq<|Jf3 R ?_
  revert h
  cases el:(!E.1)
  refine JF λh=>Jy R<|Js<|Jp<|Jj3 ?_
  have bf:=bz.stp (T3 i f j)
  refine Jg4 tv R (Jh4 (haE bf.cells) I69 Z69 R)<|Jn 4 R<|Ob h λdX dq h=>?_
  have bg:=bA.stp (T3 i f j)
  have bh:=bB.stp (T3 i f j)
  have bi:=bC.stp (T3 i f j)
  have bj:=bD.stp (T3 i f j)
  have bk:=bE.stp (T3 i f j)
  have bl:=C.stp (T4 o i f j)
  refine Jw3 R call95 (Ret.cast (by simp only[dc,zy,zz])<|kC (J:=Mk S) (p0:=p0) (Jn3 bg) (Jn3 bh) (Jn3 bi) (Jn3 bj) (Jn3 bk) (Jn3 bl) (Jn3 cM.rdc) dq) ?_
  rintro _ eG ⟨es,eg,d6,rfl,cF,cP⟩
  obtain⟨a2,K,dD⟩:=Ji cF 17 R
  refine Tv<|Jb 1 R<|Jq<|Js1 (J:=a2) [2] none [(1,2),(2,2),(0,0),(3,1),(4,1),(5,2)] [] (by kernel_rfl) (by kernel_rfl) λeI A=>Jn 2 R<|Jg R (Jh4 (haC (bf.stp<|K.tr A).cells R) I69 Z69 R)<|Ob h λeV dr h=>?_
  have bm:=bl.stp (K.tr A)
  have aG:=(cP.mx bU dD R (R:17+2=19)).stp A
  refine Jw3 R call94 (nj (J:=Mk a2) (Jn3 bm) (Jn3 aG.rdc) dr) ?_
  rintro _ eJ ⟨et,eh,ec,rfl,cG,cQ⟩
  obtain⟨cm,B,dE⟩:=Ji cG 20 R
  have I:=(T3 K A B)
  refine⟨(B.cl R),Ob h λdY ds h=>Jw3 R call51 (b0 (J:=Mk cm) (p0:=p0) (Jn3<|bg.stp I) (Jn3<|bh.stp I) (Jn3<|bi.stp I) (Jn3<|bj.stp I) (Jn3<|bk.stp I) (Jn3 (cQ.mx bU dE R (R:20+2=22)).rdc) ds) ?_⟩
  rintro _ b7 ⟨eu,d8,ea,rfl,cH,cR⟩
  obtain⟨ay,U,dF⟩:=Ji cH 23 R
  refine⟨((B.tr U).cl R),?_⟩
  have bn:=cR.mx bU dF R (R:23+2=25)
  refine Jn 1 R<|Jt1<|Jd<|Jq<|Jf3 R<|Ob h λb2 dl c5=>?_
  clear h
  refine Jt3 [6] (λd e b=>∃c,∃aq:VB,e=d/\Stp [5] ay b7 c b/\Oc zo 4 c b 5 x y aq/\v.length=aq.length/\b2=zw aq) ?_ ?_
  refine Jv<|Ju3 [1,6,7,16,17] (λa d e b=>∃c G,∃O:VB,e=(18,vi G)::d/\Stp [5] ay b7 c b/\Oc zo 4 c b 5 x y O/\v.length=O.length/\0<=G/\zq ((p1.length:Int)-G)=a/\cntM (iT Q dX dY) a G O=some b2) ⟨_,_,⟨ay,0,v,R,Jo3,(aH.stp<|T11 g p q o i f j K A B U),R,(by decide),(by simp),dl⟩,(KM R)⟩ ?_
  rintro a _ b8 ⟨az,G,O,rfl,V,aI,aY,bJ,ak,h⟩
  rcases a with _|a
  have ao:=h;obtain⟨dL,h⟩:=exq ao
  have aU:=dcf ak
  refine Jq<|Jl3 2 R<|Js3 R U71 R R<|Jb 1 R<|Jx2 R aU<|Jc1<|Jt<|Jt ?_
  cases h
  have h:=ao
  refine Jb1 ?_
  cases h
  exact Jw1 _ ⟨az,O,R,V.wk R,aI,aY,R⟩<|KM R
  obtain⟨dL,h,ao⟩:=BI h;unfold iT at h
  have aU:=dct ak
  refine Jq<|Jl3 2 R<|Js3 R U71 R R<|Jb 1 R<|Jw2 R aU<|Js<|Jp<|Jq<|Jv<|Jm3 4 R<|Ob h λdZ bN h=>Jd3 R bn.rdc bN U71 Z4<|Jc3 R I4 ((bn.stp V).rdc.gBool bN)<|Jn 1 R<|Ob h λdP h c6=>Jk4 [1,6,7,16,17,18,134,135] 149 dP az b8 9 tv ?_ ?_
  revert h
  cases eo:dZ
  refine JF λh=>Jn 2 R<|Ob h λd0 bO h=>Jd3 R aG.rdc bO U71 Z4<|Jc3 R I4 ((aG.stp<|T3 B U V).rdc.gBool bO)<|Jn 1 R<|Ob h λdO h c8=>Jk4 [1,6,7,16,17,18,134,135,140,141,142,143,144,145] 148 dO az b8 3 tv ?_ ?_
  revert h
  cases ep:d0
  refine JF λh=>Jn 3 R ?_
  cases h
  exact Jl4 tv R
  refine JT λh=>Jn 3 R ?_
  cases h
  exact Jl4 tv R
  rintro _ eL _ ⟨rfl,d5,cB⟩
  have h:=c8
  refine Jn 1 R ?_
  cases h
  exact Jv1 _ tv ⟨R,_,cB.wk R⟩<|KM R
  refine JT λh=>Jn 3 R<|Je4 R<|Jn 5 R ?_
  cases h
  exact Jl4 tv R
  rintro _ eM _ ⟨rfl,cp,a9⟩
  have h:=c6
  refine Ob h λeW dt h=>Jf R (Jg2 aI.rdc dt U71 Z4 R R aY R)<|Ob h λcb bV h=>Jk1 (J:=cp) (E:=zo) 5 [] R R R R R R R R Z4 R R R R (aI.stp a9) bV λeN cq cC cT=>Tv<|?_
  have dg:v.length=cb.length:=aY.trans (Ju2 bV).2.2.2.symm
  refine Jo<|Jz<|Jp<|Jg3 R<|wr2 bJ ak bm.len_le ▸ ?_
  cases h
  exact Ja2 ⟨cq,G+1,cb,R,(T3 V a9 cC).wk R,cT,dg,nxz bJ,nxm ak,ao⟩ R
  rintro _ eK ⟨co,aq,rfl,cA,cS,df,rfl⟩
  have h:=yI c5
  refine Jp<|Jf3 R<|Ju<|Jb2 (l:=[.tmp 4]) results51 (Jq2 R R) R ?_
  cases h
  exact⟨(λL=>ren [(5,2)]<|co L),x,y,(by simp only[df]),((aS.stp<|T15 s k m g p q o i f j K A B U cA).map (ren [(5,2)]) R R),(cS.map (ren [(5,2)]) R R)⟩
  refine JT λh=>Jx R<|Jq<|Jf3 R<|Ob h λb5 dk c3=>?_
  clear h
  refine Jt3 [6] (λd e b=>∃c,∃au:VB,e=d/\Stp [5] S b6 c b/\Oc zo 4 c b 5 x y au/\v.length=au.length/\b5=zw au) ?_ ?_
  refine Jv<|Ju3 [1,6,7] (λa d e b=>∃c F,∃P:VB,e=(15,vi F)::d/\Stp [5] S b6 c b/\Oc zo 4 c b 5 x y P/\v.length=P.length/\0<=F/\zq ((p1.length:Int)-F)=a/\cntM (iS p1 Q) a F P=some b5) ⟨_,_,⟨S,0,v,R,Jo3,(aH.stp<|T7 g p q o i f j),R,(by decide),(by simp),dk⟩,(KM R)⟩ ?_
  rintro a _ dU ⟨a1,F,P,rfl,aC,aF,aX,bI,aj,h⟩
  rcases a with _|a
  have an:=h;obtain⟨dK,h⟩:=exq an
  have aT:=dcf aj
  refine Jq<|Jl3 2 R<|Js3 R U71 R R<|Jb 1 R<|Jx2 R aT<|Jc1<|Jt<|Jt ?_
  cases h
  have h:=an
  refine Jb1 ?_
  cases h
  exact Jw1 _ ⟨a1,P,R,aC.wk R,aF,aX,R⟩<|KM R
  obtain⟨dK,h,an⟩:=BI h;unfold iS at h
  have aT:=dct aj
  refine Jq<|Jl3 2 R<|Js3 R U71 R R<|Jb 1 R<|Jw2 R aT<|Js<|Jp<|Jq<|Jv<|Jm3 4 R<|Ob h λdW bM h=>Jd3 R C bM U71 Z4<|Jc3 R I4 ((C.stp<|T5 o i f j aC).gBool bM)<|Jn 1 R<|Ob h λdN h c4=>Jk4 [1,6,7,15,105,106] 114 dN a1 dU 3 tv ?_ ?_
  revert h
  cases em:dW
  refine JF λh=>Jn 3 R ?_
  cases h
  exact Jl4 tv R
  refine JT λh=>Jn 3 R ?_
  cases h
  exact Jl4 tv R
  rintro _ eE _ ⟨rfl,ck,a8⟩
  have h:=c4
  refine Ob h λeU dp h=>Jf R (Jg2 aF.rdc dp U71 Z4 R R aX R)<|Ob h λce bY h=>Jk1 (J:=ck) (E:=zo) 5 [] R R R R R R R R Z4 R R R R (aF.stp a8) bY λeF cl cz cO=>Tv<|?_
  have de:v.length=ce.length:=aX.trans (Ju2 bY).2.2.2.symm
  refine Jo<|Jz<|Jp<|Jg3 R<|wr2 bI aj C.len_le ▸ ?_
  cases h
  exact Ja2 ⟨cl,F+1,ce,R,(T3 aC a8 cz).wk R,cO,de,nxz bI,nxm aj,an⟩ R
  rintro _ eD ⟨ci,au,rfl,cy,cN,dd,rfl⟩
  have h:=yI c3
  refine Jp<|Jf3 R<|Ju<|Jw<|Jb2 (l:=[.tmp 4]) results51 (Jq2 R R) R ?_
  cases h
  exact⟨(λL=>ren [(5,2)]<|ci L),x,y,(by simp only[dd]),((aS.stp<|T11 s k m g p q o i f j cy).map (ren [(5,2)]) R R),(cN.map (ren [(5,2)]) R R)⟩
  refine JT λh=>Jx R<|Jf3 R<|Ju<|Jw<|Jb2 (l:=[.tmp 4]) results51 (Jq2 R R) R ?_
  cases h
  exact⟨(λL=>ren [(5,2)]<|a3 L),x,y,R,((aS.stp<|T3 s k m).map (ren [(5,2)]) R R),(aH.map (ren [(5,2)]) R R)⟩
theorem oo {q p t v s u}{p0:Parity}{K V}{p1:VI}(aP:Rd Ri J w 0 q p p0.Arena.Owner) (aQ:Rd Rs J w 0 t v p0.Arena.Next) (aR:Rd Ri J w 0 s u p0.Prio) (aS:Rd Ri J w 0 K V p1){r:VI×VI}(h:kL p0 p1=some r):Ret prog 142 [.agg #[.slice q p0.Arena.Owner.length p,.slice t p0.Arena.Next.length v,.slice s p0.Prio.length u],.slice K p1.length V] w (λbb z=>∃(B:Col) (Q:Option Addr) (T:Nat) (S:Option Addr) (U:Nat),bb= .tuple #[.slice Q r.1.length T,.slice S r.2.length U]/\Ent J w B z/\Oc E6 2 B z 2 Q T r.1/\Oc E6 2 B z 3 S U r.2):=by
 unfold kL at h
 refine Jp3 J func142 R ntmps142 R λP=>Jj3<|Jx3 J 2 R λbq bD C e aK=>Tv<|Jb 2 R<|Jq<|Js1 (J:=C) [2] none [(1,2),(0,0),(2,0),(3,1),(4,2),(5,1),(6,2)] [] (by kernel_rfl) (by kernel_rfl) λbJ d=>Je3 R U32 R Z30 ?_
 have y:=aK.stp d
 refine Jg R (Jh4 (haC y.cells R) I32 Z32 R)<|Jg R (Jh4 (haC (y.lds 0 2 R) R) I30 Z30 R)<|Ob h λW aU h=>?_
 have N:=aP.stp (e.tr d)
 have O:=aQ.stp (e.tr d)
 refine Jw3 R call188 (pY (J:=Mk C) (p0:=p0.Arena) (Jn3 N) (Jn3 O) aU) ?_
 rintro _ bE ⟨bt,ar,aq,rfl,ay,aH⟩
 obtain⟨aa,a,a6⟩:=Ji ay 3 R
 refine⟨(a.cl R),Jf R (Jn4 [.slice q p0.Arena.Owner.length p,.slice t p0.Arena.Next.length v,.slice s p0.Prio.length u,.slice ar W.length aq] R)<|Jx3 aa 6 R λbp bH ab b aI=>⟨((a.tr b).cl R),Jn 1 R<|Jt1<|Jd<|Jj3<|Je3 R U32 R Z30<|Jg4 tv R (Jh4 (haE ((y.stp<|a.tr b).lds 0 2 R)) I30 Z30 R)<|Jn 1 R<|Ob h λbO aV h=>?_⟩⟩
 have L:=N.stp (a.tr b)
 have M:=O.stp (a.tr b)
 refine Jw3 R call189 (gN (J:=Mk ab) (p0:=p0.Arena) (Jn3 L) (Jn3 M) (Jn3<|aS.stp<|T4 e d a b) aV) ?_
 rintro _ A ⟨bv,bn,bi,rfl,az,aJ⟩
 obtain⟨ac,f,a7⟩:=Ji az 7 R
 refine Tv<|Jb 1 R<|Jl3 2 R ?_
 obtain⟨ad,g,bd⟩:=b9 ac A 5
 obtain⟨ae,i,be⟩:=b9 ad A 9
 obtain⟨af,c,bf⟩:=b9 ae A 6
 refine Ob h λbc aW h=>?_
 have x:=(Sl.st be ((aJ.mx bU a7 R (R:7+2=9)).stp g).rdc).stp c
 have n:=(T3 f g i)
 refine Jw3 R call190 (nB _ (J:=λj=>mp [] 1<|af j) (p0:=(⟨p0,W⟩:solver)) (Jm2 (L.stp<|n.tr c) (mp [] 1) R R) (Jm2 (M.stp<|n.tr c) (mp [] 1) R R) (Jm2 (aR.stp<|T8 e d a b f g i c) (mp [] 1) R R) (Jm2 ((Sl.st bd ((aH.mx (ie (aT _) _) a6 R (R:3+2=5)).stp (b.tr f)).rdc).stp (i.tr c)) (mp [] 1) R R) (Jm2 x (mp [] 1) R R) ((Bc.fzz bf<|aI.stp n).map (mp [] 1) R R) aW) ?_
 rintro _ bI ⟨bw,bo,bj,rfl,aA,aL⟩
 obtain⟨D,k,bC,bg⟩:=Jj aA 10 R
 refine Tv<|?_
 have m:=aL.mx bg
 refine Jb 5 R<|Jq<|Jf3 R ?_
 revert h
 cases br:(bc.2==0)
 refine JF λh=>Jy R<|Js<|Jp<|Jl3 2 R<|Ob h λbS a0 h=>Jw3 R call192 (fM (J:=Mk D) (Jn3<|x.stp k) (Jn3 m) a0) ?_
 rintro _ bN ⟨bB,bk,bh,rfl,av,aE⟩
 obtain⟨X,E,a3⟩:=Ji av 13 R
 refine Tv<|Ob h λbT a1 h=>Jw3 R call191 (eS (J:=Mk X) (Jn3 (aE.mx bU a3 R (R:13+2=15)).rdc) a1) ?_
 rintro _ bF ⟨bs,aj,am,rfl,aw,aF⟩
 obtain⟨Y,F,a4⟩:=Ji aw 16 R
 refine Tv<|Jn 1 R<|Ob h λbV a2 h=>Jw3 R call191 (eS (J:=Mk Y) (Jn3<|m.stp<|E.tr F) a2) ?_
 rintro _ bG ⟨bu,au,ak,rfl,ax,aG⟩
 obtain⟨Z,G,a5⟩:=Ji ax 19 R
 refine Tv<|Jb 2 R<|Ju<|Jb2 (l:=[.tmp 4,.tmp 5]) results142 (Jq2 R<|Jq2 R R) R ?_
 cases h
 exact⟨(λj=>ren [(18,2),(21,3)]<|Z j),aj,am,au,ak,R,((P.stp<|T12 e d a b f g i c k E F G).map (ren [(18,2),(21,3)]) R R),(((aF.mx (aT _) a4 R (R:16+2=18)).stp G).map (ren [(18,2),(21,3)]) R R),((aG.mx (aT _) a5 R (R:19+2=21)).map (ren [(18,2),(21,3)]) R R)⟩
 refine JT λh=>Jx R<|Jl3 1 R<|Ob h λbP aX h=>Jw3 R call191 (eS (J:=Mk D) (Jn3 m) aX) ?_
 rintro _ bK ⟨bx,ap,an,rfl,aB,aM⟩
 obtain⟨ag,o,a8⟩:=Ji aB 13 R
 refine Tv<|Jn 2 R<|Ob h λbQ aY h=>Jw3 R call192 (fM (J:=Mk ag) (Jn3<|x.stp<|k.tr o) (Jn3<|m.stp o) aY) ?_
 rintro _ bL ⟨bz,bm,bl,rfl,aC,aN⟩
 obtain⟨ah,H,a9⟩:=Ji aC 16 R
 refine Tv<|Ob h λbR aZ h=>Jw3 R call191 (eS (J:=Mk ah) (Jn3 (aN.mx bU a9 R (R:16+2=18)).rdc) aZ) ?_
 rintro _ bM ⟨bA,ao,al,rfl,aD,aO⟩
 obtain⟨ai,I,ba⟩:=Ji aD 19 R
 refine Tv<|Jb 2 R<|Ju<|Jw<|Jb2 (l:=[.tmp 4,.tmp 5]) results142 (Jq2 R<|Jq2 R R) R ?_
 cases h
 exact⟨(λj=>ren [(15,2),(21,3)]<|ai j),ap,an,ao,al,R,((P.stp<|T12 e d a b f g i c k o H I).map (ren [(15,2),(21,3)]) R R),(((aM.mx (aT _) a8 R (R:13+2=15)).stp (H.tr I)).map (ren [(15,2),(21,3)]) R R),((aO.mx (aT _) ba R (R:19+2=21)).map (ren [(15,2),(21,3)]) R R)⟩
theorem rq {O N Q T P S}{p0:Parity}{M ak}{p1:VI}(W:Rd Ri J w 0 O N p0.Arena.Owner) (X:Rd Rs J w 0 Q T p0.Arena.Next) (Y:Rd Ri J w 0 P S p0.Prio) (Z:Rd Ri J w 0 M ak p1){r:Parity}(h:km p0 p1=some r):Ret prog 207 [.agg #[.slice O p0.Arena.Owner.length N,.slice Q p0.Arena.Next.length T,.slice P p0.Prio.length S],.slice M p1.length ak] w (λaS b=>∃(c:Col) (ae:Option Addr) (ah:Nat) (af:Option Addr) (ai:Nat) (ag:Option Addr) (aj:Nat),aS= .agg #[.slice ae r.Arena.Owner.length ah,.slice af r.Arena.Next.length ai,.slice ag r.Prio.length aj]/\Ent J w c b/\Oc E6 2 c b 2 ae ah r.Arena.Owner/\Oc (Ep.own E6 2) 27 c b 3 af ai r.Arena.Next/\Oc E6 2 c b 4 ag aj r.Prio):=by
 unfold km at h
 refine Jp3 J func207 R ntmps207 R λaP=>Jj3<|Jx3 J 2 R λaW aZ an n aH=>Tv<|Jy3 an 3 R X32 R λax aU z k V=>Tv<|Jd<|Jq<|Ob h λf ab h=>Ob h λG aa h=>Jt3 [4] (λal au b=>∃c E D A C F B,au=al/\Stp [3,4,6,7,8] z aU c b/\Oc E6 2 c b 4 E D f.Owner/\Oc (Ep.own E6 2) 27 c b 5 A C f.Next/\Oc E6 2 c b 6 F B G/\Bc c b 3 ax 32 [.slice E f.Owner.length D,.slice A f.Next.length C,.slice F G.length B]) ?_ ?_
 refine WC.rxt (J:=z) [2] none (by kernel_rfl) λa0 d=>Jq1 (fuel:=5) [(0,2),(2,2),(5,2),(1,0),(6,0)] (by kernel_rfl) (by kernel_rfl) R<|Je3 R U32 R Z30<|Jn 1 R<|Je3 R U32 R Z27 ?_
 have U:=aH.stp (k.tr d)
 refine Jg R (Jh4 (haC (U.lds 0 2 R) R) I30 Z30 R)<|Jg R (Jd2 I27 R R<|hvC (U.ld 2 R R) R)<|Jp1<|WA.fork2 (fuel:=4) 3 4 (by kernel_rfl) R ?_ ?_
 have H:=(T3 n k d)
 refine Jw3 R call241 (me (J:=Mk z) (p0:=p0.Arena) (Jn3<|W.stp H) (Jn3<|X.stp H) (Jn3<|Z.stp H) ab) ?_
 rintro _ a1 ⟨aX,t,x,v,q,rfl,ay,aE,aF⟩
 obtain⟨ao,g,ac⟩:=Ji ay 4 R
 exact⟨(g.cl R),Jp1<|Jq1 (fuel:=0) [(4,1),(7,1),(8,2),(9,1)] (by kernel_rfl) (by kernel_rfl) R<|Jc4 ao E6 8 R Y27 aR R λaw aQ a2 ap e aG=>⟨((g.tr e).cl R),Jd4 ap E6 8 [] R Y27 aR R aG (Sl.srcP (bo _)<|Y.stp<|T5 n k d g e) aV aa R λu s a3 K j aI=>⟨((T3 g e j).cl R),Jf R (Jn4 [.slice t f.Owner.length x,.slice v f.Next.length q,.slice u G.length s] R)<|Jm4 K 3 R Z32 R (V.stp<|T4 d g e j) R λa4 o aJ=>⟨((T4 g e j o).cl R),Jp1<|Jr1 [] (by kernel_rfl) (by kernel_rfl) R<|Jo<|Jw1 _ ⟨(λy=>ren [(6,4),(7,5),(8,6)]<|K y),t,x,v,q,u,s,R,(Jz2 ((T5 d g e j o).wk R) [(6,4),(7,5),(8,6)] R),(((aE.mx (aT _) ac R (R:4+2=6)).stp (T3 e j o)).map (ren [(6,4),(7,5),(8,6)]) R R),(((aF.mx (ie (aT _) _) ac R (R:4+3=7)).stp (T3 e j o)).map (ren [(6,4),(7,5),(8,6)]) R R),((aI.stp o).map (ren [(6,4),(7,5),(8,6)]) R R),(aJ.map (ren [(6,4),(7,5),(8,6)]) R R)⟩<|KM R⟩⟩⟩⟩
 have I:=(T3 n k d)
 refine Jc4 z E6 4 R Y27 aR R λaw aQ a5 aq a aK=>⟨(a.cl R),Jp1<|Jq1 (fuel:=0) [(3,1),(7,1),(8,2),(9,1)] (by kernel_rfl) (by kernel_rfl) R<|Jw3 R call241 (me (J:=Mk aq) (p0:=p0.Arena) (Jn3<|W.stp<|I.tr a) (Jn3<|X.stp<|I.tr a) (Jn3<|Z.stp<|I.tr a) ab) ?_⟩
 rintro _ a6 ⟨aY,t,x,v,q,rfl,az,aL,aM⟩
 obtain⟨ar,i,ad⟩:=Ji az 5 R
 exact⟨((a.tr i).cl R),Jd4 ar E6 4 [] R Y27 aR R (aK.stp i) (Sl.srcP (bo _)<|Y.stp<|T5 n k d a i) aV aa R λu s a7 L m aN=>⟨((T3 a i m).cl R),Jf R (Jn4 [.slice t f.Owner.length x,.slice v f.Next.length q,.slice u G.length s] R)<|Jm4 L 3 R Z32 R (V.stp<|T4 d a i m) R λa8 p aO=>⟨((T4 a i m p).cl R),Jp1<|Jr1 [] (by kernel_rfl) (by kernel_rfl) R<|Jo<|Jw1 _ ⟨(λy=>ren [(7,4),(8,5),(4,6)]<|L y),t,x,v,q,u,s,R,(Jz2 ((T5 d a i m p).wk R) [(7,4),(8,5),(4,6)] R),(((aL.mx (aT _) ad R (R:5+2=7)).stp (m.tr p)).map (ren [(7,4),(8,5),(4,6)]) R R),(((aM.mx (ie (aT _) _) ad R (R:5+3=8)).stp (m.tr p)).map (ren [(7,4),(8,5),(4,6)]) R R),((aN.stp p).map (ren [(7,4),(8,5),(4,6)]) R R),(aO.map (ren [(7,4),(8,5),(4,6)]) R R)⟩<|KM R⟩⟩⟩
 rintro _ a9 ⟨am,E,D,A,C,F,B,rfl,av,aA,aB,aC,aD⟩
 refine Jp<|Ju<|Jb2 (l:=[.cell 4 32]) results207 (bv R aD I32 Z32 R R) R ?_
 cases h
 exact⟨(λy=>ren [(4,2),(5,3),(6,4)]<|am y),E,D,A,C,F,B,R,((aP.stp<|T3 n k av).map (ren [(4,2),(5,3),(6,4)]) R R),(aA.map (ren [(4,2),(5,3),(6,4)]) R R),(aB.map (ren [(4,2),(5,3),(6,4)]) R R),(aC.map (ren [(4,2),(5,3),(6,4)]) R R)⟩
theorem fw {i c e g d f}{p0:Parity}(q:Rd Ri J w 0 i c p0.Arena.Owner) (s:Rd Rs J w 0 e g p0.Arena.Next) (t:Rd Ri J w 0 d f p0.Prio){r:Bool}(h:d7 p0=some r):Ret prog 176 [.agg #[.slice i p0.Arena.Owner.length c,.slice e p0.Arena.Next.length g,.slice d p0.Prio.length f]] w (Pvb J w r):=by
 unfold d7 at h
 refine Jp3 J func176 R ntmps176 R λu=>Jj3<|Jx3 J 2 R λB F n a j=>Tv<|Jb 1 R<|Jj3<|Jg4 tv R (Jh4 (haE j.cells) I32 Z32 R)<|Ob h λA x h=>Jw3 R call76 (gw (J:=Mk n) (p0:=p0) (Jn3<|q.stp a) (Jn3<|s.stp a) (Jn3<|t.stp a) x) ?_
 rintro _ z ⟨D,rfl,p⟩
 obtain⟨k,b,E⟩:=Ji p 3 R
 refine Tv<|Jn 1 R<|Ob h λy h v=>Jk4 [2] 10 y k z 5 tv ?_ ?_
 revert h
 cases C:A
 refine JF λh=>Jn 1 R<|Je4 R<|Jn 3 R ?_
 cases h
 exact Jl4 tv R
 refine JT λh=>Je3 R U32 R Z27<|Jc3 R I27 ((j.stp b).ld 2 R R)<|Js3 R U27 R R<|Jn 2 R ?_
 cases h
 exact Jl4 tv R
 rintro _ G _ ⟨rfl,m,o⟩
 have h:=v
 refine Jb 1 R<|Ju<|Jb2 (l:=[.tmp 2]) results176 (Jq2 R R) R ?_
 cases h
 exact⟨m,R,(u.stp<|T3 a b o)⟩
theorem ro {F E H K G I}{p0:Parity}(ay:Rd Ri J w 0 F E p0.Arena.Owner) (az:Rd Rs J w 0 H K p0.Arena.Next) (aA:Rd Ri J w 0 G I p0.Prio){r:VI}(h:gO p0=some r):Ret prog 293 [.agg #[.slice F p0.Arena.Owner.length E,.slice H p0.Arena.Next.length K,.slice G p0.Prio.length I]] w (Pvs E6 2 J w r):=by
 unfold gO at h
 refine Jp3 J func293 R ntmps293 R λaB=>Jj3<|Jx3 J 2 R λaZ a5 aa n ar=>Tv<|Jb 1 R<|Jj3<|Jc4 aa E6 3 R Y27 aR R λai aL ba ae g ax=>Tv<|Jb 1 R<|Jq<|Jj3 ?_
 have T:=ar.stp g
 refine Jg4 tv R (Jh4 (haE T.cells) I32 Z32 R)<|Ob h λY aH h=>?_
 have L:=ay.stp (n.tr g)
 have M:=az.stp (n.tr g)
 have N:=aA.stp (n.tr g)
 refine Jw3 R call249 (kl (J:=Mk ae) (p0:=p0) (Jn3 L) (Jn3 M) (Jn3 N) aH) ?_
 rintro _ X ⟨a1,aO,aY,rfl,am,ap⟩
 obtain⟨y,c,aI⟩:=Ji am 4 R
 refine Tv<|?_
 have B:=ap.mx (aT _) aI R (R:4+2=6)
 refine Js3 R U27 R R<|Jb 1 R<|Ob h λW aD aC=>?_
 clear h
 refine Jx1 (λA k=>∃m,∃x:VI,∃s p,A=[(3,.slice s x.length p)]/\Stp [3] y X m k/\Oc E6 2 m k 3 s p x/\W=zw x) ?_ ?_
 refine Jv<|Ju3 [1,8,9] (λi Z A k=>∃m e,∃j:VI,∃t q,A=(3,.slice t j.length q)::(10,vi e)::Z/\Stp [3] y X m k/\Oc E6 2 m k 3 t q j/\0<=e/\zq ((Y.length:Int)-e)=i/\cntM (gP p0 Y) i e j=some W) ⟨_,_,⟨y,0,([]:VI),ai,aL,R,Jo3,(ax.stp c),(by decide),(by simp),aD⟩,(KM R)⟩ ?_
 rintro i _ a7 ⟨z,e,j,t,q,rfl,b,O,U,u,h⟩
 rcases i with _|i
 have v:=h;obtain⟨aK,h⟩:=exq v
 have C:=dcf u
 refine Jf3 R<|Jq<|Jx2 R C<|Jc1<|Jt<|Jt ?_
 cases h
 have h:=v
 refine Jb1 ?_
 cases h
 exact Jw1 _ ⟨z,j,t,q,R,b.wk R,O,R⟩<|KM R
 obtain⟨aK,h,v⟩:=BI h;unfold gP at h
 have C:=dct u
 refine Jf3 R<|Jq<|Jw2 R C<|Js<|Jp<|Jq<|Jv<|Jj3<|Ob h λbe V h=>Jd3 R B.rdc V U27 Z2<|Jc3 R I2 ((B.stp b).rdc.gInt V)<|Jb 1 R<|Js1 (J:=z) [2] none [(0,2),(2,2),(5,2),(1,0),(3,0),(4,1),(6,1),(7,2),(8,1),(9,1),(10,2)] [] (by kernel_rfl) (by kernel_rfl) λa8 d=>Jn 1 R<|Je3 R U32 R Z30<|Jn 1 R ?_
 have P:=T.stp (T3 c b d)
 refine Jg R (Jh4 (haC P.cells R) I32 Z32 R)<|Jg R (Jh4 (haC (P.lds 0 2 R) R) I30 Z30 R)<|Ob h λbf aE h=>?_
 have Q:=L.stp (T3 c b d)
 have S:=M.stp (T3 c b d)
 refine Jw3 R call143 (gg (J:=Mk z) (p0:=p0.Arena) (Jn3 Q) (Jn3 S) aE) ?_
 rintro _ a9 ⟨a2,aS,aQ,rfl,an,au⟩
 obtain⟨ac,a,aJ⟩:=Ji an 7 R
 refine⟨(a.cl R),Ob h λaM aF h=>Jw3 R call277 (lh (J:=Mk ac) (p0:=p0) (Jn3<|Q.stp a) (Jn3<|S.stp a) (Jn3<|N.stp<|T4 c b d a) (Jn3 (au.mx (aT _) aJ R (R:7+2=9)).rdc) aF) ?_⟩
 rintro _ bb ⟨a3,aP,aX,rfl,ao,a0⟩
 obtain⟨ad,f,a4⟩:=Ji ao 10 R
 refine⟨((a.tr f).cl R),Js3 R U27 R R<|Ji4 ad 13 [(aM.length:Int)] R Y27 aR R λaW aU bc af o av=>⟨((T3 a f o).cl R),Ob h λaN aG h=>Jd4 af E6 3 [] R Y27 aR R (O.stp<|T4 d a f o) (Sl.srcP (bo _) av.rdc) aV aG R λaj ak bd ag D aw=>⟨((T4 a f o D).cl R),Jn 1 R<|Jt1<|Jo<|Jz<|Jp<|Jg3 R<|wr2 U u B.len_le ▸ ?_⟩⟩⟩
 cases h
 exact Ja2 ⟨ag,e+1,aN,aj,ak,R,(T6 b d a f o D).wk R,aw,nxz U,nxm u,v⟩ R
 rintro _ a6 ⟨ab,x,s,p,rfl,ah,aq,rfl⟩
 have h:=yI aC
 refine Jp<|Jf3 R<|Ju<|Jb2 (l:=[.tmp 2]) results293 (Jq2 R R) R ?_
 cases h
 exact⟨(λal=>ren [(3,2)]<|ab al),s,p,R,((aB.stp<|T4 n g c ah).map (ren [(3,2)]) R R),(aq.map (ren [(3,2)]) R R)⟩
theorem bN {F P}{p0:VV}(G:Rd Rs J w 0 F P p0){r:VI}(h:bf p0=some r):Ret prog 274 [.slice F p0.length P,.func (.func 248) #[] #[]] w (λaq a=>∃(b:Col) (N:Option Addr) (O:Nat),aq= .slice N r.length O/\Ent J w b a/\Rd Ri b a 0 N O r):=by
 unfold bf at h
 refine Jp3 J func274 R ntmps274 R λae=>Jf3 R<|Jq<|Jl3 1 R<|Js3 R U28 R R<|Jb 1 R<|Ob h λaB h af=>Jt3 [0,1] (λc d a=>∃b,d=c/\Stp [] J w b a) ?_ ?_
 revert h
 cases ay:decide ((p0.length:Int)<1)
 refine JF λh=>Jy R<|Js ?_
 cases h
 exact Jw1 _ ⟨J,R,Jo3⟩<|KM R
 exact JT λh=>Jx R<|nomatch h
 rintro _ Q ⟨v,rfl,E⟩
 have h:=af
 refine Jp<|Jl3 1 R<|Ob h λau I h=>Jd3 R G I U28 Z27 ?_
 have p:=G.stp E
 obtain⟨W,ao,ad,ak⟩:=p.gSl I
 refine Jc3 R I27 ak<|Jb 1 R<|Jq<|Jf3 R<|Ob h λM al ag=>?_
 clear h
 refine Jt3 [1] (λc d a=>∃b,∃t:VI,∃m k,d=(5,.slice m t.length k)::c/\Stp [] v Q b a/\Rd Ri b a 0 m k t/\M=zw t) ?_ ?_
 refine Jv<|Ju3 [0,1] (λi c d a=>∃b e,∃j:VI,∃g f,d=(5,.slice g j.length f)::(6,vi e)::c/\Stp [] v Q b a/\Rd Ri b a 0 g f j/\0<=e/\zq ((p0.length:Int)-e)=i/\cntM (aZ p0) i e j=some M) ⟨_,_,⟨v,1,au,W,ao,R,Jo3,ad,(by decide),(by simp),al⟩,(KM R)⟩ ?_
 rintro i _ aE ⟨D,e,j,g,f,rfl,x,z,H,q,h⟩
 rcases i with _|i
 have s:=h;obtain⟨an,h⟩:=exq s
 have B:=dcf q
 refine Jq<|Jl3 2 R<|Js3 R U28 R R<|Jb 1 R<|Jx2 R B<|Jc1<|Jt<|Jt ?_
 cases h
 have h:=s
 refine Jb1 ?_
 cases h
 exact Jw1 _ ⟨D,j,g,f,R,x.wk R,z,R⟩<|KM R
 obtain⟨an,h,s⟩:=BI h;unfold aZ at h
 have B:=dct q
 refine Jq<|Jl3 2 R<|Js3 R U28 R R<|Jb 1 R<|Jw2 R B<|Js<|Jp<|Jq<|Jv<|Jl3 3 R<|Ob h λaG K h=>Jd3 R p K U28 Z27 ?_
 have A:=p.stp x
 obtain⟨aw,aC,aa,ai⟩:=A.gSl K
 refine Jc3 R I27 ai<|Jn 1 R<|Ob h λav am h=>WO.callV R R R R R R R R call248 (cx (J:=Mk D) (Jn3 aa) (Jn3 z) am) ?_
 rintro _ ar ⟨az,rfl,Y⟩
 obtain⟨u,y,aA⟩:=Ji Y 2 R
 refine Tv<|Jb 1 R<|Ob h λC h ah=>Jt3 [0,1,6] (λc d a=>∃b n o,d=(5,.slice n C.length o)::c/\Stp [] u ar b a/\Rd Ri b a 0 n o C) ?_ ?_
 revert h
 cases ax:decide (av<0)
 refine JF λh=>Jy R<|Js ?_
 cases h
 exact Jw1 _ ⟨u,g,f,R,Jo3,(z.stp y)⟩<|KM R
 refine JT λh=>Jx R<|Jm3 2 R<|Ob h λaH L h=>Jd3 R A L U28 Z27 ?_
 obtain⟨X,ap,ac,aj⟩:=(A.stp y).gSl L
 refine Jc3 R I27 aj<|Jc 1 R ?_
 cases h
 exact Jw1 _ ⟨u,X,ap,R,Jo3,ac⟩<|KM R
 rintro _ aF ⟨T,n,o,rfl,V,ab⟩
 have h:=ah
 refine Jz<|Jp<|Jg3 R<|wr2 H q p.len_le ▸ ?_
 cases h
 exact Ja2 ⟨T,e+1,C,n,o,R,(T3 x y V).wk R,ab,nxz H,nxm q,s⟩ R
 rintro _ aD ⟨S,t,m,k,rfl,U,Z,rfl⟩
 have h:=yI ag
 refine Jp<|Jf3 R<|Ju<|Jb2 (l:=[.tmp 4]) results274 (Jq2 R R) R ?_
 cases h
 exact⟨S,m,k,R,(ae.stp<|E.tr U),Z⟩
theorem bM {F P}{p0:VV}(G:Rd Rs J w 0 F P p0){r:VI}(h:bc p0=some r):Ret prog 275 [.slice F p0.length P,.func (.func 248) #[] #[]] w (λaq a=>∃(b:Col) (N:Option Addr) (O:Nat),aq= .slice N r.length O/\Ent J w b a/\Rd Ri b a 0 N O r):=by
 unfold bc at h
 refine Jp3 J func275 R ntmps275 R λae=>Jf3 R<|Jq<|Jl3 1 R<|Js3 R U28 R R<|Jb 1 R<|Ob h λaB h af=>Jt3 [0,1] (λc d a=>∃b,d=c/\Stp [] J w b a) ?_ ?_
 revert h
 cases ay:decide ((p0.length:Int)<1)
 refine JF λh=>Jy R<|Js ?_
 cases h
 exact Jw1 _ ⟨J,R,Jo3⟩<|KM R
 exact JT λh=>Jx R<|nomatch h
 rintro _ Q ⟨v,rfl,E⟩
 have h:=af
 refine Jp<|Jl3 1 R<|Ob h λau I h=>Jd3 R G I U28 Z27 ?_
 have p:=G.stp E
 obtain⟨W,ao,ad,ak⟩:=p.gSl I
 refine Jc3 R I27 ak<|Jb 1 R<|Jq<|Jf3 R<|Ob h λM al ag=>?_
 clear h
 refine Jt3 [1] (λc d a=>∃b,∃t:VI,∃m k,d=(5,.slice m t.length k)::c/\Stp [] v Q b a/\Rd Ri b a 0 m k t/\M=zw t) ?_ ?_
 refine Jv<|Ju3 [0,1] (λi c d a=>∃b e,∃j:VI,∃g f,d=(5,.slice g j.length f)::(6,vi e)::c/\Stp [] v Q b a/\Rd Ri b a 0 g f j/\0<=e/\zq ((p0.length:Int)-e)=i/\cntM (aW p0) i e j=some M) ⟨_,_,⟨v,1,au,W,ao,R,Jo3,ad,(by decide),(by simp),al⟩,(KM R)⟩ ?_
 rintro i _ aE ⟨D,e,j,g,f,rfl,x,z,H,q,h⟩
 rcases i with _|i
 have s:=h;obtain⟨an,h⟩:=exq s
 have B:=dcf q
 refine Jq<|Jl3 2 R<|Js3 R U28 R R<|Jb 1 R<|Jx2 R B<|Jc1<|Jt<|Jt ?_
 cases h
 have h:=s
 refine Jb1 ?_
 cases h
 exact Jw1 _ ⟨D,j,g,f,R,x.wk R,z,R⟩<|KM R
 obtain⟨an,h,s⟩:=BI h;unfold aW at h
 have B:=dct q
 refine Jq<|Jl3 2 R<|Js3 R U28 R R<|Jb 1 R<|Jw2 R B<|Js<|Jp<|Jq<|Jv<|Jl3 3 R<|Ob h λaG K h=>Jd3 R p K U28 Z27 ?_
 have A:=p.stp x
 obtain⟨aw,aC,aa,ai⟩:=A.gSl K
 refine Jc3 R I27 ai<|Jn 1 R<|Ob h λav am h=>WO.callV R R R R R R R R call248 (cx (J:=Mk D) (Jn3 aa) (Jn3 z) am) ?_
 rintro _ ar ⟨az,rfl,Y⟩
 obtain⟨u,y,aA⟩:=Ji Y 2 R
 refine Tv<|Jb 1 R<|Ob h λC h ah=>Jt3 [0,1,6] (λc d a=>∃b n o,d=(5,.slice n C.length o)::c/\Stp [] u ar b a/\Rd Ri b a 0 n o C) ?_ ?_
 revert h
 cases ax:decide (0<av)
 refine JF λh=>Jy R<|Js ?_
 cases h
 exact Jw1 _ ⟨u,g,f,R,Jo3,(z.stp y)⟩<|KM R
 refine JT λh=>Jx R<|Jm3 2 R<|Ob h λaH L h=>Jd3 R A L U28 Z27 ?_
 obtain⟨X,ap,ac,aj⟩:=(A.stp y).gSl L
 refine Jc3 R I27 aj<|Jc 1 R ?_
 cases h
 exact Jw1 _ ⟨u,X,ap,R,Jo3,ac⟩<|KM R
 rintro _ aF ⟨T,n,o,rfl,V,ab⟩
 have h:=ah
 refine Jz<|Jp<|Jg3 R<|wr2 H q p.len_le ▸ ?_
 cases h
 exact Ja2 ⟨T,e+1,C,n,o,R,(T3 x y V).wk R,ab,nxz H,nxm q,s⟩ R
 rintro _ aD ⟨S,t,m,k,rfl,U,Z,rfl⟩
 have h:=yI ag
 refine Jp<|Jf3 R<|Ju<|Jb2 (l:=[.tmp 4]) results275 (Jq2 R R) R ?_
 cases h
 exact⟨S,m,k,R,(ae.stp<|E.tr U),Z⟩
theorem jc {F L}{p0:VI}{G M}{p1:VI}(A:Rd Ri J w 0 F L p0) (ag:Rd Ri J w 0 G M p1){r:VI}(h:gH p0 p1=some r):Ret prog 141 [.slice F p0.length L,.slice G p1.length M] w (Pvs E6 2 J w r):=by
 unfold gH at h
 refine Jp3 J func141 R ntmps141 R λah=>Jf3 R<|Jj3<|Jc4 J E6 2 R Y27 aR R λY Z N u y ae=>Tv<|Jb 1 R<|Jq<|Jl3 1 R<|Js3 R U27 R R<|Jb 1 R<|Ob h λK ak aj=>?_
 clear h
 refine Jx1 (λd a=>∃b,∃s:VI,∃o m,d=[(5,.slice o s.length m)]/\Stp [2] u N b a/\Oc E6 2 b a 2 o m s/\K=zw s) ?_ ?_
 refine Jv<|Ju3 [1,11,12] (λg t d a=>∃b c,∃i:VI,∃f e,d=(5,.slice f i.length e)::(13,vi c)::t/\Stp [2] u N b a/\Oc E6 2 b a 2 f e i/\0<=c/\zq ((p0.length:Int)-c)=g/\cntM (gJ p0 p1) g c i=some K) ⟨_,_,⟨u,0,([]:VI),Y,Z,R,Jo3,ae,(by decide),(by simp),ak⟩,(KM R)⟩ ?_
 rintro g _ ay ⟨D,c,i,f,e,rfl,j,z,H,p,h⟩
 rcases g with _|g
 have q:=h;obtain⟨an,h⟩:=exq q
 have B:=dcf p
 refine Jf3 R<|Jq<|Jx2 R B<|Jc1<|Jt<|Jt ?_
 cases h
 have h:=q
 refine Jb1 ?_
 cases h
 exact Jw1 _ ⟨D,i,f,e,R,j.wk R,z,R⟩<|KM R
 obtain⟨an,h,q⟩:=BI h;unfold gJ at h
 have B:=dct p
 refine Jf3 R<|Jq<|Jw2 R B<|Js<|Jp<|Jq<|Jv<|Jj3<|Ob h λap I h=>Jd3 R A I U27 Z2<|Jc3 R I2 ((A.stp<|y.tr j).gInt I)<|Jb 1 R<|Jl3 2 R<|Ob h λaq al h=>Jw3 R call187 (gt (J:=Mk D) (Jn3<|ag.stp<|y.tr j) al) ?_
 rintro _ ao ⟨aw,rfl,aa⟩
 obtain⟨v,x,ax⟩:=Ji aa 3 R
 refine Tv<|Jb 5 R<|Jf3 R<|Ob h λC h ai=>Jt3 [1,11,12,13] (λt d a=>∃b k n,d=(5,.slice k C.length n)::t/\Stp [2] v ao b a/\Oc E6 2 b a 2 k n C) ?_ ?_
 revert h
 cases av:(!aq.2)
 refine JF λh=>Jy R<|Js ?_
 cases h
 exact Jw1 _ ⟨v,f,e,R,Jo3,(z.stp x)⟩<|KM R
 refine JT λh=>Jx R<|Jm3 2 R<|Ji4 v 5 [ap] R Y27 aR R λar au aA P E ad=>Tv<|Ob h λaD am h=>Jd4 P E6 2 [] R Y27 aR R (z.stp<|x.tr E) (Sl.srcP (bo _) ad.rdc) aV am R λX W aB Q V af=>Tv<|Jc 1 R ?_
 cases h
 exact Jw1 _ ⟨Q,X,W,R,(E.tr V).wk R,af⟩<|KM R
 rintro _ az ⟨O,k,n,rfl,U,ac⟩
 have h:=ai
 refine Jz<|Jp<|Jg3 R<|wr2 H p A.len_le ▸ ?_
 cases h
 exact Ja2 ⟨O,c+1,C,k,n,R,(T3 j x U).wk R,ac,nxz H,nxm p,q⟩ R
 rintro _ aC ⟨S,s,o,m,rfl,T,ab,rfl⟩
 have h:=yI aj
 refine Jp<|Jf3 R<|Ju<|Jb2 (l:=[.tmp 4]) results141 (Jq2 R R) R ?_
 cases h
 exact⟨S,o,m,R,(ah.stp<|y.tr T),ab⟩
theorem lj {bD bB bG bI bF bH}{p0:Parity}{bA cg}{p1:VI}(du:Rd Ri J w 0 bD bB p0.Arena.Owner) (dv:Rd Rs J w 0 bG bI p0.Arena.Next) (dw:Rd Ri J w 0 bF bH p0.Prio) (dx:Rd Ri J w 0 bA cg p1){r:(List Worth)}(h:eK p0 p1=some r):Ret prog 217 [.agg #[.slice bD p0.Arena.Owner.length bB,.slice bG p0.Arena.Next.length bI,.slice bF p0.Prio.length bH],.slice bA p1.length cg] w (Pvs Worth.ep257 257 J w r):=by
 unfold eK at h
 refine Jp3 J func217 R ntmps217 R λdy=>Jj3<|Jx3 J 2 R λeI e6 cs Z dk=>Tv<|Jb 1 R<|Jl3 1 R<|Js3 R U27 R R<|Ob h λs d8 h=>Jl1 (J:=cs) (E:=Worth.nl257) (z:=(⟨-1,[],0⟩:Worth)) 3 R R R R R R R underlying254 qS R R R R R (λ_ _ _=>wi R) (Jv2 d8) λP Q ft cz O dp=>Tv<|Jb 1 R<|Jq<|Jj3 ?_
 have bR:=dk.stp O
 refine Jg4 tv R (Jh4 (haE bR.cells) I32 Z32 R)<|Ob h λev d9 h=>?_
 have bJ:=du.stp (Z.tr O)
 have bK:=dv.stp (Z.tr O)
 have ag:=dw.stp (Z.tr O)
 refine Jw3 R call177 (iJ (J:=Mk cz) (p0:=p0) (Jn3 bJ) (Jn3 bK) (Jn3 ag) d9) ?_
 rintro _ ch ⟨eQ,rfl,cR⟩
 obtain⟨aL,u,eZ⟩:=Ji cR 4 R
 refine Tv<|Jb 1 R<|Ob h λ_ d4 h=>?_
 have dK:=ku d4
 refine Ob h λcd d1 dD=>?_
 clear h
 refine Jt3 [5] (λc e a=>∃b,∃aG:(List Worth),e=c/\Stp [3,8,9,10,11,12,14,16,17] aL ch b a/\Oc Worth.nl257 257 b a 3 P Q aG/\s.length=aG.length/\cd=zw aG) ?_ ?_
 refine Jv<|Ju3 [1,2,5,19] (λd c e a=>∃b K,∃T:(List Worth),e=(20,vi K)::c/\Stp [3,8,9,10,11,12,14,16,17] aL ch b a/\Oc Worth.nl257 257 b a 3 P Q T/\s.length=T.length/\0<=K/\zq (ev-K)=d/\cntM (eA p0 p1 s) d K T=some cd) ⟨_,_,⟨aL,0,s,R,Jo3,(dp.stp u),R,(by decide),(by simp),d1⟩,(KM R)⟩ ?_
 rintro d _ fs ⟨bq,K,T,rfl,x,a6,bd,bT,ax,h⟩
 rcases d with _|d
 have aC:=h;obtain⟨eo,h⟩:=exq aC
 have ba:=dcf ax
 refine Jf3 R<|Jq<|Jx2 R ba<|Jc1<|Jt<|Jt ?_
 cases h
 have h:=aC
 refine Jb1 ?_
 cases h
 exact Jw1 _ ⟨bq,T,R,x.wk R,a6,bd,R⟩<|KM R
 obtain⟨eo,h,aC⟩:=BI h;unfold eA at h
 have ba:=dct ax
 refine Jf3 R<|Jq<|Jw2 R ba<|Js<|Jp<|Jq<|Jv<|Jf3 R<|Jj3<|Je3 R U32 R Z30 ?_
 have bP:=bR.stp (u.tr x)
 refine Jg4 tv R (Jh4 (haE<|bP.lds 0 2 R) I30 Z30 R)<|Ob h λL ea h=>?_
 have H:=bJ.stp (u.tr x)
 have D:=bK.stp (u.tr x)
 refine Jw3 R call170 (eT (J:=Mk bq) (p0:=p0.Arena) (Jn3 H) (Jn3 D) ea) ?_
 rintro _ ci ⟨eX,a1,a2,rfl,cX,dl⟩
 obtain⟨aM,i,el⟩:=Ji cX 6 R
 refine Tv<|Jb 1 R<|Jq<|Jj3<|Je3 R U32 R Z30<|Je3 R U30 R Z28 ?_
 have au:=bP.stp i
 refine Jc3 R I28 (au.ld 1 R R)<|Js3 R U28 R R<|Jb 1 R<|Ob h λce d2 dG=>?_
 clear h
 refine Jt3 [1,2,5,7,19,20] (λc e a=>∃b,∃an:Int×VI,e=c/\Stp [8] aM ci b a/\Oc E6 2 b a 8 a1 a2 an.2/\L.length=an.2.length/\ce=zw an) ?_ ?_
 refine Jv<|Ju3 [1,2,5,7,19,20,28,29] (λd c e a=>∃b U,∃I:Int×VI,e=(6,vi I.1)::(30,vi U)::c/\Stp [8] aM ci b a/\Oc E6 2 b a 8 a1 a2 I.2/\L.length=I.2.length/\0<=U/\zq ((p0.Arena.Next.length:Int)-U)=d/\cntM (dA p0) d U I=some ce) ⟨_,_,⟨aM,0,(K,L),R,Jo3,(dl.mx (aT _) el R (R:6+2=8)),R,(by decide),(by simp),d2⟩,(KM R)⟩ ?_
 rintro d _ et ⟨aq,U,I,rfl,aa,av,aF,bU,ay,h⟩
 rcases d with _|d
 have aD:=h;obtain⟨ep,h⟩:=exq aD
 have bb:=dcf ay
 refine Jf3 R<|Jq<|Jx2 R bb<|Jc1<|Jt<|Jt ?_
 cases h
 have h:=aD
 refine Jb1 ?_
 cases h
 exact Jw1 _ ⟨aq,(I.1,I.2),R,aa.wk R,av,aF,R⟩<|KM R
 obtain⟨ep,h,aD⟩:=BI h;unfold dA at h
 have bb:=dct ay
 refine Jf3 R<|Jq<|Jw2 R bb<|Js<|Jp<|Jq<|Jv<|Jl3 1 R<|Ob h λfA bZ h=>Jd3 R D bZ U28 Z27 ?_
 obtain⟨eG,e5,bQ,dO⟩:=(D.stp (i.tr aa)).gSl bZ
 refine Jc3 R I27 dO<|Jb 2 R<|Jj3<|Je3 R U32 R Z30<|Je3 R U30 R Z27<|Jc3 R I27 ((au.stp aa).ld 0 R R)<|Jn 1 R<|Ob h λew b0 h=>Jd3 R H b0 U27 Z2<|Jc3 R I2 ((H.stp<|i.tr aa).gInt b0)<|Jb 1 R<|Ob h λaj h dH=>Jt3 [1,2,5,7,19,20,28,29,30] (λc e a=>∃b,e=(6,vi aj.1)::c/\Stp [8] aq et b a/\Oc E6 2 b a 8 a1 a2 aj.2/\L.length=aj.2.length) ?_ ?_
 revert h
 cases eO:(ew==1)
 refine JF λh=>Jy R<|Js ?_
 cases h
 exact Jw1 _ ⟨aq,R,Jo3,av,aF⟩<|KM R
 refine JT λh=>Jx R<|Jl3 5 R<|Js3 R U27 R R<|Ob h λ_z48 ee h=>Jf R (c7 R R R<|uS ee)<|Ob h λfB b1 h=>Jd3 R bQ b1 U27 Z2<|Jc3 R I2 (bQ.gInt b1)<|Ob h λfC eb h=>Jf R (Jg2 av.rdc eb U27 Z2 R R aF R)<|Ob h λez b7 h=>Jk1 (J:=aq) (E:=E6) 8 [] R R R R R R R R Z2 R R R R av b7 λfw cB cL dn=>Tv<|?_
 have dZ:L.length=ez.length:=aF.trans (Ju2 b7).2.2.2.symm
 refine Jd<|Jm3 2 R<|Js3 R U27 R R<|Ob h λ_z55 ef h=>Jf R (oD R R R<|uS ef)<|Jc 1 R ?_
 cases h
 exact Jw1 _ ⟨cB,R,cL.wk R,dn,dZ⟩<|KM R
 rintro _ fv ⟨cA,rfl,cK,dm,dY⟩
 have h:=dH
 refine Jz<|Jp<|Jg3 R<|wr2 bU ay D.len_le ▸ ?_
 cases h
 exact Ja2 ⟨cA,U+1,(aj.1,aj.2),R,(aa.tr cK).wk R,dm,dY,nxz bU,nxm ay,aD⟩ R
 rintro _ fu ⟨cy,an,rfl,k,a7,bX,rfl⟩
 have h:=yI dG
 refine Jp<|Jj3<|Jc4 cy E6 9 R Y27 aR R λeD eH fx cC j dq=>Tv<|Jn 1 R<|Ob h λaI ec h=>Jd4 cC E6 9 [] R Y27 aR R dq (Sl.srcP (bo _)<|dx.stp<|T7 Z O u x i k j) aV ec R λbE bC cj aN m dr=>Tv<|Jb 1 R<|Jq<|Jl3 1 R<|Js3 R U27 R R<|Jb 1 R ?_
 have dL:(L.length:Int)<=9223372036854775807:=(by rw[bX];exact a7.len_le)
 refine Ob h λcf d3 dI=>?_
 clear h
 refine Jt3 [1,2,5,10,19,20] (λc e a=>∃b,∃ak:VI,e=c/\Stp [9] aN cj b a/\Oc E6 2 b a 9 bE bC ak/\aI.length=ak.length/\cf=zw ak) ?_ ?_
 refine Jv<|Ju3 [1,2,5,10,19,20,60,61] (λd c e a=>∃b V,∃ao:VI,e=(62,vi V)::c/\Stp [9] aN cj b a/\Oc E6 2 b a 9 bE bC ao/\aI.length=ao.length/\0<=V/\zq ((L.length:Int)-V)=d/\cntM (dB an) d V ao=some cf) ⟨_,_,⟨aN,0,aI,R,Jo3,dr,R,(by decide),(by simp),d3⟩,(KM R)⟩ ?_
 rintro d _ fy ⟨br,V,ao,rfl,a0,ah,aE,bV,az,h⟩
 rcases d with _|d
 have aA:=h;obtain⟨eq,h⟩:=exq aA
 have bc:=dcf az
 refine Jf3 R<|Jq<|Jx2 R bc<|Jc1<|Jt<|Jt ?_
 cases h
 have h:=aA
 refine Jb1 ?_
 cases h
 exact Jw1 _ ⟨br,ao,R,a0.wk R,ah,aE,R⟩<|KM R
 obtain⟨eq,h,aA⟩:=BI h;unfold dB at h
 have bc:=dct az
 refine Jf3 R<|Jq<|Jw2 R bc<|Js<|Jp<|Jq<|Jv<|Jl3 1 R<|Ob h λfD b2 h=>Jf R (Jg2 a7.rdc b2 U27 Z2 R R bX R)<|Jc3 R I2 ((a7.stp<|T3 j m a0).rdc.gInt b2)<|Jb 2 R<|Jm3 4 R<|Ob h λfE b3 h=>Jf R (Jg2 ah.rdc b3 U27 Z2 R R aE R)<|Jc3 R I2 (ah.rdc.gInt b3)<|Jn 1 R<|Jf R (qv R R R)<|Ob h λfF ed h=>Jf R (Jg2 ah.rdc ed U27 Z2 R R aE R)<|Ob h λck b8 h=>Jk1 (J:=br) (E:=E6) 9 [] R R R R R R R R Z2 R R R R ah b8 λe7 cn cE cY=>Tv<|?_
 have dR:aI.length=ck.length:=aE.trans (Ju2 b8).2.2.2.symm
 refine Jo<|Jz<|Jp<|Jg3 R<|wr2 bV az dL ▸ ?_
 cases h
 exact Ja2 ⟨cn,V+1,ck,R,(a0.tr cE).wk R,cY,dR,nxz bV,nxm az,aA⟩ R
 rintro _ bi ⟨cD,ak,rfl,p,ds,bY,rfl⟩
 have h:=yI dI
 refine Jp<|Jl3 1 R<|Js3 R U254 R R<|Jb 1 R ?_
 obtain⟨aJ,n,eB⟩:=b9 cD bi 9
 have bL:=Sl.st eB ds.rdc
 have dJ:(s.length:Int)<=9223372036854775807:=(by rw[bd];exact a6.len_le)
 refine Ob h λcc d0 dz=>?_
 clear h
 refine Jt3 [1,2,5,19,20] (λc e a=>∃b,∃am:(List Worth),e=c/\Stp [3,10,11,12,14,16,17] aJ bi b a/\Oc Worth.nl257 257 b a 3 P Q am/\s.length=am.length/\cc=zw am) ?_ ?_
 refine Jv<|Ju3 [1,2,5,10,19,20,78] (λd c e a=>∃b W,∃al:(List Worth),e=(79,vi W)::c/\Stp [3,10,11,12,14,16,17] aJ bi b a/\Oc Worth.nl257 257 b a 3 P Q al/\s.length=al.length/\0<=W/\zq ((s.length:Int)-W)=d/\cntM (dC p0 ak) d W al=some cc) ⟨_,_,⟨aJ,0,T,R,Jo3,(a6.stp<|T6 i k j m p n),bd,(by decide),(by simp),d0⟩,(KM R)⟩ ?_
 rintro d _ er ⟨X,W,al,rfl,g,a3,E,bS,aw,h⟩
 rcases d with _|d
 have aB:=h;obtain⟨en,h⟩:=exq aB
 have a9:=dcf aw
 refine Jf3 R<|Jq<|Jx2 R a9<|Jc1<|Jt<|Jt ?_
 cases h
 have h:=aB
 refine Jb1 ?_
 cases h
 exact Jw1 _ ⟨X,al,R,g.wk R,a3,E,R⟩<|KM R
 obtain⟨en,h,aB⟩:=BI h;unfold dC at h
 have a9:=dct aw
 refine Jf3 R<|Jq<|Jw2 R a9<|Js<|Jp<|Jq<|Jv<|Jf3 R<|Jq<|Ob h λbj b4 h=>Ob h λf bg h=>Jt3 [1,2,5,10,13,19,20,78,79] (λc e a=>∃b y S af,e=(14,.pointer (some ⟨y,0,none⟩))::c/\Stp [10,14,16,17] X er b a/\Oc E6 2 b a 10 S af f.Over/\Bc b a 11 y 257 [vi f.Head,.slice S f.Over.length af,vi f.Way]) ?_ ?_
 refine WC.rxt (J:=X) [2] none (by kernel_rfl) λfa o=>Jq1 (fuel:=4) [(1,2),(2,2),(0,0)] (by kernel_rfl) (by kernel_rfl) R<|Jn 2 R<|Jg R (Jh4 (haC (au.stp<|T7 k j m p n g o).cells R) I32 Z32 R)<|Jp1<|WA.fork2 (fuel:=3) 3 5 (by kernel_rfl) R ?_ ?_
 refine Jw3 R call255 (Ret.cast (by simp only[bY,zy,zz])<|na (J:=λq=>mp [] 1<|X q) (Jm2 (bL.stp<|g.tr o) (mp [] 1) R R) b4) ?_
 rintro _ fb ⟨eP,cM,cN,cP,cO,rfl,cQ,c0,c1⟩
 obtain⟨bl,t,eY,cl⟩:=Jj cQ 10 R
 refine⟨(t.cl R),?_⟩
 have bN:=c0.mx cl
 have bO:=c1.mx cl
 refine Jp1<|WA.fork2 (fuel:=2) 4 5 (by kernel_rfl) R ?_ ?_
 have bs:=(T9 i k j m p n g o t)
 refine Jw3 R call254 (jU (J:=Mk bl) (p0:=p0) (p1:=bj) (Jn3<|H.stp bs) (Jn3<|D.stp bs) (Jn3<|ag.stp<|T11 u x i k j m p n g o t) (Jn3 bN) (Jn3 bO) bg) ?_
 rintro _ fc ⟨eR,ad,ab,rfl,cS,c2⟩
 obtain⟨cp,bz,ei⟩:=Ji cS 14 R
 have aO:=(t.tr bz)
 exact⟨(aO.cl R),Jp1<|Jq1 (fuel:=0) [(5,1),(6,1)] (by kernel_rfl) (by kernel_rfl) R<|Jy3 cp 17 R X257 R λy fd bm ar c3=>⟨((aO.tr ar).cl R),Jm4 bm 17 R Z257 R c3 R λfe aP c4=>⟨((T3 aO ar aP).cl R),Jp1<|Jr1 [] (by kernel_rfl) (by kernel_rfl) R<|Jo<|Jw1 _ ⟨(λq=>ren [(16,10),(17,11)]<|bm q),y,ad,ab,R,(Jz2 ((T5 o t bz ar aP).wk R) [(16,10),(17,11)] R),(((c2.mx (aT _) ei R (R:14+2=16)).stp (ar.tr aP)).map (ren [(16,10),(17,11)]) R R),(c4.map (ren [(16,10),(17,11)]) R R)⟩<|KM R⟩⟩⟩
 have bt:=(T9 i k j m p n g o t)
 refine Jy3 bl 14 R X257 R λy ff cq B c5=>⟨((t.tr B).cl R),Jp1<|Jq1 (fuel:=0) [(4,1),(6,1)] (by kernel_rfl) (by kernel_rfl) R<|Jw3 R call254 (jU (J:=Mk cq) (p0:=p0) (p1:=bj) (Jn3<|H.stp<|bt.tr B) (Jn3<|D.stp<|bt.tr B) (Jn3<|ag.stp<|T12 u x i k j m p n g o t B) (Jn3<|bN.stp B) (Jn3<|bO.stp B) bg) ?_⟩
 rintro _ fg ⟨eS,ad,ab,rfl,cT,c6⟩
 obtain⟨bn,aQ,ej⟩:=Ji cT 15 R
 have bu:=(T3 t B aQ)
 exact⟨(bu.cl R),Jm4 bn 14 R Z257 R (c5.stp aQ) R λfh aS c8=>⟨((bu.tr aS).cl R),Jp1<|Jr1 [] (by kernel_rfl) (by kernel_rfl) R<|Jo<|Jw1 _ ⟨(λq=>ren [(17,10),(14,11)]<|bn q),y,ad,ab,R,(Jz2 ((T5 o t B aQ aS).wk R) [(17,10),(14,11)] R),(((c6.mx (aT _) ej R (R:15+2=17)).stp aS).map (ren [(17,10),(14,11)]) R R),(c8.map (ren [(17,10),(14,11)]) R R)⟩<|KM R⟩⟩
 refine Jy3 X 10 R X257 R λy fi cr F c9=>⟨(F.cl R),Jp1<|Jq1 (fuel:=0) [(3,1),(4,1),(6,1)] (by kernel_rfl) (by kernel_rfl) R<|Jw3 R call255 (Ret.cast (by simp only[bY,zy,zz])<|na (J:=λq=>mp [] 1<|cr q) (Jm2 (bL.stp<|T3 g o F) (mp [] 1) R R) b4) ?_⟩
 rintro _ fj ⟨eU,cM,cN,cP,cO,rfl,cU,da,db⟩
 obtain⟨ct,N,e0,cm⟩:=Jj cU 11 R
 have bv:=(T10 i k j m p n g o F N)
 refine⟨((F.tr N).cl R),Jw3 R call254 (jU (J:=Mk ct) (p0:=p0) (p1:=bj) (Jn3<|H.stp bv) (Jn3<|D.stp bv) (Jn3<|ag.stp<|T12 u x i k j m p n g o F N) (Jn3<|da.mx cm) (Jn3<|db.mx cm) bg) ?_⟩
 rintro _ fk ⟨eV,ad,ab,rfl,cV,dc⟩
 obtain⟨bp,aU,ek⟩:=Ji cV 15 R
 have bw:=(T3 F N aU)
 exact⟨(bw.cl R),Jm4 bp 10 R Z257 R (c9.stp<|N.tr aU) R λfl aW dd=>⟨((bw.tr aW).cl R),Jp1<|Jr1 [] (by kernel_rfl) (by kernel_rfl) R<|Jo<|Jw1 _ ⟨(λq=>ren [(17,10),(10,11)]<|bp q),y,ad,ab,R,(Jz2 ((T5 o F N aU aW).wk R) [(17,10),(10,11)] R),(((dc.mx (aT _) ek R (R:15+2=17)).stp aW).map (ren [(17,10),(10,11)]) R R),(dd.map (ren [(17,10),(10,11)]) R R)⟩<|KM R⟩⟩
 rintro _ e9 ⟨aK,y,S,af,rfl,Y,a4,bM⟩
 refine Jp<|Jq<|Js1 (J:=aK) [0,2,3,11] none [(0,2),(1,2),(2,2),(3,2),(4,0),(5,2),(6,2),(8,2),(9,2),(10,2),(7,0),(11,0),(12,0),(13,1),(14,2)] [] (by kernel_rfl) (by kernel_rfl) λes v=>Jn 2 R<|Ob h λex b5 h=>Jf R (Jg2 a3.rdc b5 U254 Z257 R R E R)<|Je3 R U257 R Z27 ?_
 have C:=a3.stp (Y.tr v)
 obtain⟨eJ,d5,dP⟩:=(C.rdc).gSt b5
 obtain⟨eE,e2,e3,dM,dN⟩:=ya R d5
 refine Jg R (Jd2 I27 R R<|hvC (λa d6=>dP a d6 1 _ dM) R)<|Jf R (oC U27 dN R R R)<|Jn 1 R<|Ob h λcb h dE=>Jk4 [1,2,5,10,13,14,19,20,78,79] 101 cb aK es 8 (Cl.refl _ _ _) ?_ ?_
 revert h
 cases eM:(ex.Head==(-1))
 refine JF λh=>Jn 2 R<|Ob h λey b6 h=>Jf R (Jg2 C.rdc b6 U254 Z257 R R E R)<|Jg R (Jh4 (haC (au.stp<|T8 k j m p n g Y v).cells R) I32 Z32 R)<|Ob h λ_z98 eg h=>?_
 obtain⟨eL,be,dQ⟩:=(C.rdc).gSt b6
 replace be:=yb be eg
 obtain⟨eF,e4,rfl,dt⟩:=Worth.un be
 have bx:=(T9 i k j m p n g Y v)
 refine Jg R (Jh4 (haC dQ R) I257 Z257 R)<|Jg R (Jh4 (haC (bM.stp v).cells R) I257 Z257 R)<|Ob h λfz d7 h=>Jw3 R call256 (kj (J:=Mk aK) (p0:=p0) (p1:=ey) (p2:=f) (Jn3<|H.stp bx) (Jn3<|D.stp bx) (Jn3<|ag.stp<|T11 u x i k j m p n g Y v) (Jn3 dt) (Jn3 (a4.stp v).rdc) d7) ?_
 rintro _ fn ⟨eW,rfl,cW⟩
 obtain⟨eC,aX,e1⟩:=Ji cW 12 R
 refine⟨(aX.cl R),Jn 1 R ?_⟩
 cases h
 exact Jv1 _ (aX.cl R) ⟨R,_,aX.wk R⟩<|KM R
 refine JT λh=>Jn 3 R<|Jf4 R<|Jf4 R<|Jf4 R<|Je4 R<|Jn 1 R ?_
 cases h
 exact Jv1 _ (Cl.refl _ _ _) ⟨R,_,Jo3⟩<|KM R
 rintro _ ap _ ⟨rfl,A,G⟩
 have h:=dE
 refine Jt1<|Jd<|Ob h λbh h dF=>Jt3 [1,2,5,10,19,20,78,79] (λc e a=>∃b,e=c/\Stp [3,10,11,12] A ap b a/\Oc Worth.nl257 257 b a 3 P Q bh/\s.length=bh.length) ?_ ?_
 revert h
 cases eN:cb
 refine JF λh=>Jy R<|Js ?_
 cases h
 exact Jw1 _ ⟨A,R,Jo3,(C.stp G),E⟩<|KM R
 refine JT λh=>Jx R<|Jq<|Jj3<|Je3 R U257 R Z27 ?_
 have a5:=bM.stp (v.tr G)
 refine Jc3 R I27 (a5.ld 1 R R)<|Jf R (oC U27 R R R R)<|Jd ?_
 cases bW:S.isNone
 refine Jy R<|Js<|Jp<|Jm3 2 R<|Jg4 tv R (Jh4 (haE a5.cells) I257 Z257 R)<|Ob h λeu bf h=>Jf R (Jg2 C.rdc bf U254 Z257 R R E R)<|Ob h λ_z364 a8 h=>Ob h λbk ai h=>Jk1 (J:=A) (E:=Worth.nl257) 3 [10] R R R R R R R R Z257 R (wO a8 ⟨[vi f.Head],[.slice S f.Over.length af,vi f.Way],Zl A ap [],Zl A ap [10],R,Zl.sp (l1:=[]) (l2:=[10]) R,Zl.sr (l1:=[]) (l2:=[10]),R,⟨[.slice S f.Over.length af],[vi f.Way],Zl A ap [10],Zl A ap [],R,Zl.sp (l1:=[10]) (l2:=[]) R,Zl.sr (l1:=[10]) (l2:=[]),⟨_,_,R,(a4.stp<|v.tr G)⟩,R⟩⟩ R bW) R R (C.stp G) ai λfr cx cJ dj=>Tv<|?_
 have dX:s.length=bk.length:=E.trans (Ju2 ai).2.2.2.symm
 refine Jo ?_
 cases h
 exact Jw1 _ ⟨cx,R,cJ.wk R,dj,dX⟩<|KM R
 have ca:=Ow.noneNil (a4.stp (v.tr G)) bW
 refine Jx R<|Jk3<|WO.bl1 (J:=A) (E:=E6) 12 R R R R R Y27 aR R λac ae fp M aY dg dU=>Tv<|Je3 R U257 R Z27<|Jz3 M 11 (off:=1) (vc:=[.slice ac ([]:VI).length ae]) (cs':=[vi f.Head,.slice ac ([]:VI).length ae,vi f.Way]) R Z27 R (a5.stp aY) R λaH aZ dh=>Tv<|Jd<|Jm3 2 R<|Jg4 tv R (Jh4 (haE dh.cells) I257 Z257 R)<|Ob h λeu bf h=>Jf R (Jg2 C.rdc bf U254 Z257 R R E R)<|Ob h λ_z364 a8 h=>Ob h λbk ai h=>Jk1 (J:=M) (E:=Worth.nl257) 3 [12] R R R R R R R R Z257 R (wO a8 ⟨[vi f.Head],[.slice ac ([]:VI).length ae,vi f.Way],Zl M aH [],Zl M aH [12],R,Zl.sp (l1:=[]) (l2:=[12]) R,Zl.sr (l1:=[]) (l2:=[12]),R,⟨[.slice ac ([]:VI).length ae],[vi f.Way],Zl M aH [12],Zl M aH [],R,Zl.sp (l1:=[12]) (l2:=[]) R,Zl.sr (l1:=[12]) (l2:=[]),⟨_,_,(congrArg (λem=>[Value.slice ac em ae]) (congrArg List.length ca).symm),((Ow.asNil ca dg).stp aZ)⟩,R⟩⟩ R dU) R R (C.stp<|T3 G aY aZ) ai λfq cw cI di=>Tv<|?_
 have dW:s.length=bk.length:=E.trans (Ju2 ai).2.2.2.symm
 refine Jo ?_
 cases h
 exact Jw1 _ ⟨cw,R,(T3 aY aZ cI).wk R,di,dW⟩<|KM R
 rintro _ fo ⟨cv,rfl,cH,de,dT⟩
 have h:=dF
 refine Jz<|Jp<|Jg3 R<|wr2 bS aw dJ ▸ ?_
 cases h
 exact Ja2 ⟨cv,W+1,bh,R,(T5 g Y v G cH).wk R,de,dT,nxz bS,nxm aw,aB⟩ R
 rintro _ e8 ⟨co,am,rfl,cF,cZ,dS,rfl⟩
 have h:=yI dz
 refine Jz<|Jp<|Jg3 R<|wr2 bT ax dK ▸ ?_
 cases h
 exact Ja2 ⟨co,K+1,am,R,(T8 x i k j m p n cF).wk R,cZ,dS,nxz bT,nxm ax,aC⟩ R
 rintro _ fm ⟨cu,aG,rfl,cG,df,dV,rfl⟩
 have h:=yI dD
 refine Jp<|Jf3 R<|Ju<|Ob h λ_zr eh h=>Jb2 (l:=[.tmp 4]) results217 (Jq2 R R) R ?_
 cases h
 exact⟨(λq=>ren [(3,2)]<|cu q),P,Q,(by simp only[dV]),((dy.stp<|T4 Z O u cG).map (ren [(3,2)]) R R),((Ow.unl df eh).map (ren [(3,2)]) R R)⟩
end
end Go.Proofs.YtgbippnfaoedmaaGreatDoor
