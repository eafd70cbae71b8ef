/- The walks, part 2. By program. -/
import Derived.Test.YtldlmopdhmaceaaGreatDoorFns0BE
import Derived.Test.YtldlmopdhmaceaaGreatDoorFns1BE
set_option linter.unusedVariables false
set_option linter.unusedSimpArgs false
open Go.Wk.Ep renaming bool → FT, own → FU
open Int renaming toNat → FV
open Go.IntKind renaming wrap → FW
open Go.Wk.Sl renaming srcP → FY
open Sum renaming inr → FX
namespace Go.Proofs.YtldlmopdhmaceaaGreatDoor
open Tryz
open Go Go.Wk Go.Proofs
set_option maxRecDepth 100000
set_option maxHeartbeats 1000000
section
variable {w:World}{J:Col}
theorem wS {p y}{p0:VI}{p1:Int}(j:Rd Ri J w 0 p y p0){r:Bool}(h:py p0 p1=some r):Ret prog 48 [.slice p p0.length y,vi p1] w (Pvb J w r):=by
 refine Jp3 J func48 R ntmps48 R λP=>Jf3 R<|Jq<|Jf3 R<|Ob h λx H q=>Jx1 (λi k=>∃m,i=[]/\Stp [] J w m k/\x=FX ()) (Jv<|Ju3 [0,1] (λe A i k=>∃m c,i=(5,vi c)::A/\Stp [] J w m k/\0<=c/\FV ((p0.length:Int)-c)=e/\cntM (kL p0 p1) e c ()=some x) ⟨_,_,⟨J,0,R,Jo3,(by decide),(by simp),H⟩,(KM R)⟩ ?_) ?_
 rintro e _ _ ⟨g,c,rfl,E,s,f,h⟩
 rcases e with _|e
 exact Jq<|Jl3 2 R<|Js3 R U30 R R<|Jb 1 R<|Jx2 R (dcf f)<|Jc1<|Jt<|Jt<|Jb1<|Oh h<|Jw1 _ ⟨g,R,Fct,R⟩ KN
 refine Ob h λQ h b=>Jq<|Jl3 2 R<|Js3 R U30 R R<|Jb 1 R<|Jw2 R (dct f)<|Js<|Jp<|Jq<|Jv<|Jq<|Xn g [0] [2,5,8,14,17,9,19,23,26,29,32,35,38,41,44,50,53,56,59,45,60,65,68,71] λ_ C=>Jn 2 R<|Ob h λ_ t h=>Jd3 R j t U30 Z2<|Jn 2 R (have d:=j.stp (E.tr C);Jg R (Jd2 I2 R R<|hvC (d.gInt t) R) (Ob h λS M h=>Jw3 R C25 (dJ (J:=Mk g) M)<|Kb λz n a=>⟨(a.cl R),Jn 2 R<|Ob h λO h F=>Jk4 [0,1,5] 35 O n z 15 (a.cl R) ?_ ?_⟩))
 refine Bk h (λI h=>Jn 3 R<|Ob h λN h G=>Jk4 [0,1,5,20,21,22,23] 34 N n z 11 (a.cl R) ?_ ?_) (λI h=>Jn 10 R<|Jf4 R<|Jf4 R<|Jn 3 R<|Oh h<|Jv1 _ (a.cl R) ⟨R,_,Jo3⟩<|KM R)
 exact Bk h (λK h=>Jn 7 R<|Jf4 R<|Jf4 R<|Jn 2 R<|Oh h<|Jv1 _ (a.cl R) ⟨R,_,Jo3⟩<|KM R) (λK h=>Jn 2 R<|Ob h λ_ u h=>Jd3 R d u U30 Z2<|Jn 3 R<|Ob h λ_ v h=>Jd3 R d v U30 Z2<|Jg R (Jd2 I2 R R<|hvC (d.gInt u) R)<|Jg R (Jd2 I2 R R<|hvC (d.gInt v) R)<|Jn 2 R<|Oh h<|Jv1 _ (a.cl R) ⟨R,_,Jo3⟩<|KM R)
 rintro _ _ _ ⟨rfl,_,D⟩
 exact have h:=G;Jn 1 R (Oh h<|Jv1 _ ((a.tr D).cl R) ⟨R,_,Fct⟩<|KM R)
 rintro _ _ _ ⟨rfl,o,_⟩
 refine have h:=F;Jt1 (Jd ?_)
 exact Bk h (λL h=>Jy R<|Js<|Jz<|Jp<|Jg3 R<|wr2 s f j.len_le ▸ (Ou h b (λb=>Ja2 ⟨o,c+1,R,Fct,nxz s,nxm f,b⟩ R))) (λL h=>Jx R<|Jf3 R<|Ju<|Ja1<|Jw<|Jw<|Ou h b (λb=>Ov b q (λh=>Ja1<|Jr2<|Jw<|Jb2 (l:=[.tmp 4]) results48 (Jq2 R R) R<|Oh h<|⟨o,R,Fct⟩)))
 rintro _ _ ⟨B,rfl,_,rfl⟩
 exact have h:=yI q;Jp (Jf3 R<|Ju<|Jb2 (l:=[.tmp 4]) results48 (Jq2 R R) R<|Oh h<|⟨B,R,Fct⟩)
theorem kj {t y}{p0:VI}(p:Rd Ri J w 0 t y p0){r:ByteArray}(h:nM p0=some r):Ret prog 16 [.slice t p0.length y] w (λad a=>∃b,ad= .string r/\Ent J w b a):=by
 refine Jp3 J func16 R ntmps16 R λV=>Jf3 R<|Jq<|Jl3 1 R<|Js3 R U30 R R<|Jb 1 R ?_
 refine Bk h (λY h=>Jy R<|Js<|Jp<|Jj3<|Jc4 J Ep.str 2 R Y33 dx R λK ac z k I U=>Tv<|Jb 1 R<|Jq<|Jf3 R<|Ob h λx X W=>Jx1 (λm a=>∃b,∃j:(List ByteArray),∃o n,m=[(3,.slice o j.length n)]/\Stp [2] k z b a/\Oc Ep.str 9 b a 2 o n j/\x=FX j) (Jv<|Ju3 [0] (λd B m a=>∃b c,∃e:(List ByteArray),∃f g,m=(3,.slice f e.length g)::(4,vi c)::B/\Stp [2] k z b a/\Oc Ep.str 9 b a 2 f g e/\0<=c/\FV ((p0.length:Int)-c)=d/\cntM (nZ p0) d c e=some x) ⟨_,_,⟨k,0,(([]:List ByteArray):(List ByteArray)),K,ac,R,Jo3,U,(by decide),(by simp),X⟩,(KM R)⟩ ?_) ?_) (λY h=>Jx R<|Jf3 R<|Ju<|Jw<|Jb2 (l:=[.tmp 2]) results16 (Jq2 R R) R<|Oh h<|⟨J,R,V⟩)
 rintro d _ _ ⟨s,c,e,f,g,rfl,H,Q,u,i,h⟩
 rcases d with _|d
 exact Jq<|Jl3 2 R<|Js3 R U30 R R<|Jb 1 R<|Jx2 R (dcf i)<|Jc1<|Jt<|Jt<|Jb1<|Oh h<|Jw1 _ ⟨s,e,f,g,R,Fct,Q,R⟩<|KM R
 refine Ob h λo6 h q=>Jq<|Jl3 2 R<|Js3 R U30 R R<|Jb 1 R<|Jw2 R (dct i)<|Js<|Jp<|Jq<|Jv<|Jm3 3 R<|Ob h λ_ v h=>Jd3 R p v U30 Z2<|Jc3 R I2 ((p.stp<|I.tr H).gInt v)<|Ob h λA Z h=>Jw3 R call28 (zu (J:=Mk s) Z) ?_
 rintro _ _ ⟨_,rfl,N⟩
 exact Im N 3 R (λD _ _=>Tv<|Jb4 D Ep.str 5 [] (parts:=[(0,.tmp 20)]) (cells:=[.string A]) (xs:=([A]:List ByteArray)) R Y33 dx R (Jj4 R) λag af _ E _ S=>Tv<|Ob h λae aa h=>Jd4 E Ep.str 2 [] R Y33 dx R Fct (FY ug S.rdc) bU aa R λL M _ F _ T=>Tv<|Jc 1 R<|Jz<|Jp<|Jg3 R<|wr2 u i p.len_le ▸ (Ou h q (λq=>Ja2 ⟨F,c+1,ae,L,M,R,Fct,T,nxz u,nxm i,q⟩ R)))
 rintro _ _ ⟨C,j,o,n,rfl,_,P,rfl⟩
 refine have h:=yI W;Jp (Jl3 1 R<|Ob h λ_ ab h=>Jw3 R call29 (wT (J:=Mk C) (Jn3 P.rdc) ab) ?_)
 rintro _ _ ⟨_,rfl,O⟩
 exact Im O 3 R (λG _ _=>Tv<|Jb 1 R<|Ju<|Jb2 (l:=[.tmp 2]) results16 (Jq2 R R) R<|Oh h<|⟨G,R,Fct⟩)
theorem gL {p0 : Int} (gGT : Tb prog "internal/strconv.uint64pow10" .u64 Lib.pow10Tab J w) {r : ByteArray} (h : fB p0 = some r) : Ret prog 56 [vi p0] w (fun v w' => ∃ κ', v = .string r ∧ Ent J w κ' w') := by
 refine Jp3 J func56 R ntmps56 R λhE=>Jf3 R<|Jl3 1 R<|Ob h λ_ hx4 h=>Jw3 R call104 (oS (J:=Mk J) (gGT.map (mp [] 0) R R) hx4) ?_
 rintro _ _ ⟨_,rfl,e3⟩
 exact Im e3 2 R (λK4 _ _=>Tv<|Jb 1 R<|Ju<|Jb2 (l:=[.tmp 2]) results56 (Jq2 R R) R<|Oh h<|⟨K4,R,Fct⟩)
theorem ch {a b}{p0:VI}{p1:Int}(e:Rd Ri J w 0 a b p0){r:Bool}(h:ca p0 p1=some r):Ret prog 135 [.slice a p0.length b,vi p1] w (Pvb J w r):=by
 exact Jp3 J func135 R ntmps135 R λf=>Jf3 R<|Jl3 2 R<|Ob h λ_ d h=>Jw3 R call112 (dM (J:=Mk J) Gct d)<|Ki λ_ c _=>Tv<|Jb 2 R<|Ju<|Jb2 (l:=[.tmp 4]) results135 (Jq2 R R) R<|Oh h<|⟨c,R,Fct⟩
theorem kV {p0:Sig}{bw bu bv bA}{p1:Det}(aB:Rd Rs J w 0 bw bu p1.Next) (a6:Rd Pair.rp J w 0 bv bA p1.Pairs){r:Arena×VP}(h:eZ p0 p1=some r):Ret prog 114 [.agg #[vi p0.In,vi p0.Out],.agg #[.slice bw p1.Next.length bu,.slice bv p1.Pairs.length bA]] w (λep a=>∃b b4 b7 b5 b8 b6 b9,ep= .tuple #[.agg #[.slice b4 r.1.Owner.length b7,.slice b5 r.1.Next.length b8],.slice b6 r.2.length b9]/\Ent J w b a/\Oc E6 2 b a 2 b4 b7 r.1.Owner/\Oc (FU E6 2) 30 b a 3 b5 b8 r.1.Next/\Oc Pair.ep120 120 b a 4 b6 b9 r.2):=by
 refine Jp3 J func114 R ntmps114 R λeN=>Jj3<|Jx3 J 2 R λ_ _ ct bt dz=>Tv<|Jx3 ct 3 R λ_ _ cy aY dH=>Tv<|Jy3 cy 4 R X53 R λ_ _ ck P _=>Tv<|Jb 1 R<|Jj3<|Jf R (Jn4 [.slice none 0 0,.slice none 0 0] R)<|Jy3 ck 5 R X53 R λt _ aN S dd=>Tv<|Jm4 aN 5 R Z53 R dd R λ_ T _=>Tv<|Jd<|Jq<|Xn aN [2,3] [2,3,8,9,13,17,20] λ_ U=>Je3 R U60 R Z51 (have a5:=dH.stp (T4 P S T U);Jg R (Jd2 I51 R R<|hvC (a5.ld 0 R R) R) (Js3 R U51 R R (have bI:=dz.stp (T5 aY P S T U);Jg R (Jh4 (haC bI.cells R) I39 Z39 R) (Ob h λp ee h=>Jw3 R C73 (dr (J:=Mk aN) (p0:=p0) ee)<|Ki λcf aR s=>⟨(s.cl R),Jn 2 R<|Jt1<|Jd<|Jq<|Jf3 R<|Ob h λb1 d3 dO=>Jt3 [2,3,4,6,7,8] (λd e a=>∃b,∃n:VI×VV,∃ab af aw X,e=d/\Stp [5,8,9,10,12] aR cf b a/\Oc E6 2 b a 8 ab af n.1/\Oc (FU E6 2) 30 b a 9 aw X n.2/\Bc b a 5 t 53 [.slice ab n.1.length af,.slice aw n.2.length X]/\b1=FX n) (Jv<|Ju3 [2,3,4,6,7,8,25] (λc d e a=>∃b g,∃i:VI×VV,∃ah aq D E,e=(26,vi g)::d/\Stp [5,8,9,10,12] aR cf b a/\Oc E6 2 b a 8 ah aq i.1/\Oc (FU E6 2) 30 b a 9 D E i.2/\Bc b a 5 t 53 [.slice ah i.1.length aq,.slice D i.2.length E]/\0<=g/\FV ((p1.Next.length:Int)-g)=c/\cntM (fU p1 p) c g i=some b1) ⟨_,_,⟨aR,0,(([]:VI),([]:VV)),none,0,none,0,R,Jo3,Ow.nil,Ow.nil,Fct,(by decide),(by simp),d3⟩,(KM R)⟩ ?_) ?_⟩))))
 rintro c _ _ ⟨bl,g,i,ah,aq,D,E,rfl,_,dA,dB,bJ,dU,bL,h⟩
 rcases c with _|c
 exact Jf3 R<|Jq<|Jx2 R (dcf bL)<|Jc1<|Jt<|Jt<|Jb1<|Oh h<|Jw1 _ ⟨bl,(i.1,i.2),ah,aq,D,E,R,Fct,dA,dB,bJ,R⟩<|KM R
 refine Ob h λeS h bb=>have aH:=dct bL;Jf3 R (Jq<|Jw2 R aH<|Js<|Jp<|Jq<|Jv<|Jf3 R<|Jj3<|Jc4 bl E6 10 R Y30 bS R λcN cY ci aT cJ dC=>Tv<|Jb 1 R<|Jq<|Jf3 R (Ob h λ_ d7 h=>have dS:=gk d7;Ob h λb2 d4 dP=>Jt3 [2,3,4,6,7,8,25,26] (λd e a=>∃b,∃u:VI,∃au an,e=(10,.slice au u.length an)::d/\Stp [10] aT ci b a/\Oc E6 2 b a 10 au an u/\b2=FX u) (Jv<|Ju3 [2,3,4,6,7,8,9,25,26,30] (λc d e a=>∃b q,∃M:VI,∃aj av,e=(10,.slice aj M.length av)::(31,vi q)::d/\Stp [10] aT ci b a/\Oc E6 2 b a 10 aj av M/\0<=q/\FV (p-q)=c/\cntM (fV p1 p g) c q M=some b2) ⟨_,_,⟨aT,0,([]:VI),cN,cY,R,Jo3,dC,(by decide),(by simp),d4⟩,(KM R)⟩ ?_) ?_))
 rintro c _ _ ⟨bm,q,M,aj,av,rfl,_,dD,bP,aF,h⟩
 rcases c with _|c
 exact Jf3 R<|Jq<|Jx2 R (dcf aF)<|Jc1<|Jt<|Jt<|Jb1<|Oh h<|Jw1 _ ⟨bm,M,aj,av,R,Fct,dD,R⟩<|KM R
 exact Ob h λeT h bc=>Jf3 R<|Jq<|Jw2 R (dct aF)<|Js<|Jp<|Jq<|Jv<|Jf3 R<|Jm3 8 R<|Ji4 bm 11 [(FW .i64 ((FW .i64 ((p1.Next.length:Int)+(FW .i64<|g * p)))+q))] R Y30 bS R λeK eI _ cz _ dE=>Tv<|Ob h λes ef h=>Jd4 cz E6 10 [] R Y30 bS R Fct (FY (cd _) dE.rdc) bU ef R λcU cX _ cA _ dF=>Tv<|Jc 1 R<|Jz<|Jp<|Jg3 R<|wr2 bP aF dS ▸ (Ou h bc (λbc=>Ja2 ⟨cA,q+1,es,cU,cX,R,Fct,dF,nxz bP,nxm aF,bc⟩ R))
 rintro _ _ ⟨cx,u,au,an,rfl,cK,_,rfl⟩
 refine have h:=yI dP;Jp (Jj3<|Je3 R U53 R Z30<|Jc3 R I30 ((bJ.stp<|cJ.tr cK).ld 0 R R)<|Ji4 cx 11 [1] R Y30 bS R λeB eG _ cB _ dG=>Tv<|Ob h λaK eg h=>Jd4 cB E6 8 [] R Y30 bS R Fct (FY (cd _) dG.rdc) bU eg R λZ aa _ bo _ _=>Tv<|Je3 R U53 R Z30<|Jz3 bo 5 (off:=0) (vc:=[.slice Z aK.length aa]) (cs':=[.slice Z aK.length aa,.slice D i.2.length E]) R Z30 R Fct R λ_ _ dI=>Tv<|Jd<|Jk3<|Je3 R U53 R Z51<|Jc3 R I51 (dI.ld 1 R R)<|Jn 1 R<|Jb4 bo (FU E6 2) 12 [10] (parts:=[(0,.tmp 52)]) (cells:=[.slice au u.length an]) (xs:=([u]:VV)) R Y51 bY R (Jj4 ⟨_,_,R,Fct⟩) λeJ eE _ cC _ dJ=>Tv<|Ob h λbe eh h=>Jd4 cC (FU E6 2) 9 [12] R Y51 bY R Fct dJ.src (c9 R) eh R λa2 a0 _ bp _ _=>Tv<|Je3 R U53 R Z51<|Jz3 bp 5 (off:=1) (vc:=[.slice a2 be.length a0]) (cs':=[.slice Z aK.length aa,.slice a2 be.length a0]) R Z51 R Fct R λ_ _ c2=>Tv<|Jo<|Jz<|Jp<|Jg3 R ?_)
 have ea:FW .i64 (g+1)=g+1:=wr1 dU (Jn2 aH) aB.len_le
 rw[ea]
 exact have aH:=Jn2 aH;Ou h bb (λbb=>Ja2 ⟨bp,g+1,(aK,be),Z,aa,a2,a0,R,Fct,Fct,Fct,c2,by omega,by omega,bb⟩ R)
 rintro _ ch ⟨aS,n,ab,af,aw,X,rfl,z,dw,dx,dy,rfl⟩
 refine have h:=yI dO;Jp (Jq<|Jf3 R<|Ob h λb3 dZ dK=>Jt3 [3,4,6] (λd e a=>∃b,∃v:VI×VV,∃am ay Y ak,e=d/\Stp [5,8,9,10,13,17,18] aS ch b a/\Oc E6 2 b a 8 am ay v.1/\Oc (FU E6 2) 30 b a 9 Y ak v.2/\Bc b a 5 t 53 [.slice am v.1.length ay,.slice Y v.2.length ak]/\b3=FX v) (Jv<|Ju3 [2,3,4,6,8,57] (λc d e a=>∃b o,∃f:VI×VV,∃B A C G,e=(58,vi o)::d/\Stp [5,8,9,10,13,17,18] aS ch b a/\Oc E6 2 b a 8 B A f.1/\Oc (FU E6 2) 30 b a 9 C G f.2/\Bc b a 5 t 53 [.slice B f.1.length A,.slice C f.2.length G]/\0<=o/\FV ((p1.Next.length:Int)-o)=c/\cntM (fW p0 p1 p) c o f=some b3) ⟨_,_,⟨aS,0,(n.1,n.2),ab,af,aw,X,R,Jo3,dw,dx,dy,(by decide),(by simp),dZ⟩,(KM R)⟩ ?_) ?_)
 rintro c _ ca ⟨O,o,f,B,A,C,G,rfl,aU,bD,bE,bF,bM,aC,h⟩
 rcases c with _|c
 exact Jf3 R<|Jq<|Jx2 R (dcf aC)<|Jc1<|Jt<|Jt<|Jb1<|Oh h<|Jw1 _ ⟨O,(f.1,f.2),B,A,C,G,R,Fct,bD,bE,bF,R⟩<|KM R
 refine Ob h λeO h a7=>Jf3 R<|Jq<|Jw2 R (dct aC)<|Js<|Jp<|Jq<|Jv<|Jf3 R<|Jf3 R (Ob h λ_ d5 h=>have dQ:=gk d5;Ob h λbX d0 dL=>Jt3 [2,3,4,6,8,57,58] (λd e a=>∃b,∃m:VI×VV,∃V ap ar az,e=d/\Stp [5,8,9,10,13,17,18] O ca b a/\Oc E6 2 b a 8 V ap m.1/\Oc (FU E6 2) 30 b a 9 ar az m.2/\Bc b a 5 t 53 [.slice V m.1.length ap,.slice ar m.2.length az]/\bX=FX m) (Jv<|Ju3 [2,3,4,6,8,12,57,58,61] (λc d e a=>∃b k,∃j:VI×VV,∃ad ai F H,e=(62,vi k)::d/\Stp [5,8,9,10,13,17,18] O ca b a/\Oc E6 2 b a 8 ad ai j.1/\Oc (FU E6 2) 30 b a 9 F H j.2/\Bc b a 5 t 53 [.slice ad j.1.length ai,.slice F j.2.length H]/\0<=k/\FV (p-k)=c/\cntM (fX p0 p1 p o) c k j=some bX) ⟨_,_,⟨O,0,(f.1,f.2),B,A,C,G,R,Jo3,bD,bE,bF,(by decide),(by simp),d0⟩,(KM R)⟩ ?_) ?_)
 rintro c _ _ ⟨bf,k,j,ad,ai,F,H,rfl,aV,c7,c8,bG,dT,bK,h⟩
 rcases c with _|c
 exact Jf3 R<|Jq<|Jx2 R (dcf bK)<|Jc1<|Jt<|Jt<|Jb1<|Oh h<|Jw1 _ ⟨bf,(j.1,j.2),ad,ai,F,H,R,Fct,c7,c8,bG,R⟩<|KM R
 refine Ob h λeP h a8=>have aG:=dct bK;Jf3 R (Jq<|Jw2 R aG<|Js<|Jp<|Jq<|Jv<|Jf3 R<|Jj3<|Jc4 bf E6 10 R Y30 bS R λcT cV cb aM Q da=>Tv<|Jb 1 R<|Jq<|Jj3<|Je3 R U39 R Z2<|Jc3 R I2 ((bI.stp<|T5 s z aU aV Q).ld 1 R R)<|Ob h λ_z68 em h=>Jf R (rU R R R<|vy em)<|Jb 1 R (Ob h λ_ d6 h=>have dR:=gk d6;Ob h λbZ d1 dM=>Jt3 [2,3,4,6,8,12,57,58,61,62] (λd e a=>∃b,∃aI:VI,∃a4 a1,e=(14,.slice a4 aI.length a1)::d/\Stp [10] aM cb b a/\Oc E6 2 b a 10 a4 a1 aI/\bZ=FX aI) (Jv<|Ju3 [2,3,4,6,8,12,13,57,58,61,62,68] (λc d e a=>∃b y,∃K:VI,∃al ae,e=(14,.slice al K.length ae)::(69,vi y)::d/\Stp [10] aM cb b a/\Oc E6 2 b a 10 al ae K/\0<=y/\FV ((FW .i64 (1 * 2 ^ (min (FV p0.Out)<|IntKind.bits IntKind.i64)))-y)=c/\cntM (fY p1 p o k) c y K=some bZ) ⟨_,_,⟨aM,0,([]:VI),cT,cV,R,Jo3,da,(by decide),(by simp),d1⟩,(KM R)⟩ ?_) ?_))
 rintro c _ _ ⟨bg,y,K,al,ae,rfl,br,db,bN,aD,h⟩
 rcases c with _|c
 exact Jf3 R<|Jq<|Jx2 R (dcf aD)<|Jc1<|Jt<|Jt<|Jb1<|Oh h<|Jw1 _ ⟨bg,K,al,ae,R,Fct,db,R⟩<|KM R
 refine Ob h λeQ h a9=>Jf3 R<|Jq<|Jw2 R (dct aD)<|Js<|Jp<|Jq<|Jv<|Jf3 R<|Jm3 1 R<|Je3 R U60 R Z51<|Jc3 R I51 ((a5.stp<|T6 s z aU aV Q br).ld 0 R R)<|Jn 1 R<|Ob h λ_ bR h=>Jd3 R aB bR U51 Z30 ?_
 obtain⟨_,_,bH,dV⟩:=(aB.stp (T12 bt aY P S T U s z aU aV Q br)).gSl bR
 exact Jc3 R I30 dV<|Jn 5 R<|Ob h λet bT h=>Jd3 R bH bT U30 Z2<|Jc3 R I2 (bH.gInt bT)<|Ji4 bg 11 [et] R Y30 bS R λeA ey _ co _ dc=>Tv<|Ob h λeu ei h=>Jd4 co E6 10 [] R Y30 bS R Fct (FY (cd _) dc.rdc) bU ei R λcS cP _ cp _ de=>Tv<|Jc 1 R<|Jz<|Jp<|Jg3 R<|wr2 bN aD dR ▸ (Ou h a9 (λa9=>Ja2 ⟨cp,y+1,eu,cS,cP,R,Fct,de,nxz bN,nxm aD,a9⟩ R))
 rintro _ _ ⟨cn,aI,a4,a1,rfl,cD,_,rfl⟩
 refine have h:=yI dM;Jp (Jl3 1 R<|Ob h λ_ ej h=>Jw3 R call176 (dW (J:=λI=>mp [(10,2)] 0<|cn I) Fct ej) ?_)
 rintro _ _ ⟨_,rfl,cZ,df,dY⟩
 refine Im cZ 11 R (λcq cE en=>Tv<|Jd<|Jj3<|Je3 R U53 R Z30<|Jc3 R I30 ((bG.stp<|T3 Q cD cE).ld 0 R R)<|Ji4 cq 14 [0] R Y30 bS R λeH eD _ cr _ dg=>Tv<|Ob h λaL ek h=>Jd4 cr E6 8 [] R Y30 bS R Fct (FY (cd _) dg.rdc) bU ek R λao aA _ aO _ _=>Tv<|Je3 R U53 R Z30<|Jz3 aO 5 (off:=0) (vc:=[.slice ao aL.length aA]) (cs':=[.slice ao aL.length aA,.slice F j.2.length H]) R Z30 R Fct R λ_ _ dh=>Tv<|Jd<|Xr aO [5] (some 7) [2,8,3,10,13,16,20] [22] λ_ cF=>Je3 R U53 R Z51<|Jn 1 R<|Jg R (Jd2 I51 R R<|hvC ((dh.stp cF).ld 1 R R) R)<|Ob h λcj el h=>Jw3 R call177 (Ret.cast (by simp only[(dY),List.cons_append,List.nil_append])<|lG (J:=λI=>mp [(13,2)] 0<|aO I) (((df.mx (bW _) en R (R:11+2=13)).stp Fct).map (mp [(13,2)] 0) R R) el) ?_)
 rintro _ _ ⟨_,bn,cM,rfl,c0,di⟩
 refine Im c0 15 R (λcs aW eo=>⟨(aW.cl R),Jb4 cs (FU E6 2) 18 [17] (parts:=[(0,.tmp 98)]) (cells:=[.slice bn cj.length cM]) (xs:=([cj]:VV)) R Y51 bY R (Jj4 ⟨_,_,R,(di.mx (bW _) eo R (R:15+2=17))⟩) λeC eF _ cu bs dj=>⟨((aW.tr bs).cl R),Ob h λbd eb h=>Jd4 cu (FU E6 2) 9 [18] R Y51 bY R Fct dj.src (c9 R) eb R λa3 aZ _ bh cG _=>⟨((T3 aW bs cG).cl R),Je3 R U53 R Z51<|Jt1<|Jz3 bh 5 (off:=1) (vc:=[.slice a3 bd.length aZ]) (cs':=[.slice ao aL.length aA,.slice a3 bd.length aZ]) R Z51 R Fct R λ_ _ dk=>Tv<|Jo<|Jz<|Jp<|Jg3 R ?_⟩⟩⟩)
 have d9:FW .i64 (k+1)=k+1:=wr1 dT (Jn2 aG) dQ
 rw[d9]
 exact have aG:=Jn2 aG;Ou h a8 (λa8=>Ja2 ⟨bh,k+1,(aL,bd),ao,aA,a3,aZ,R,Fct,Fct,Fct,dk,by omega,by omega,a8⟩ R)
 rintro _ _ ⟨cm,m,V,ap,ar,az,rfl,_,c4,c5,c6,rfl⟩
 exact have h:=yI dL;Jz (Jp<|Jg3 R<|wr2 bM aC aB.len_le ▸ (Ou h a7 (λa7=>Ja2 ⟨cm,o+1,(m.1,m.2),V,ap,ar,az,R,Fct,c4,c5,c6,nxz bM,nxm aC,a7⟩ R)))
 rintro _ _ ⟨cl,v,am,ay,Y,ak,rfl,bq,_,_,c3,rfl⟩
 refine have h:=yI dK;Jp (Jj3<|Jc4 cl Pair.ep120 10 R Y58 cQ R λcL cO ce aP aX dl=>Tv<|Jb 1 R<|Jq<|Jj3<|Je3 R U60 R Z58<|Jc3 R I58 ((a5.stp<|T4 s z bq aX).ld 1 R R)<|Js3 R U58 R R<|Jb 1 R<|Ob h λb0 d2 dN=>Jt3 [4,6] (λd e a=>∃b,∃aJ:VP,∃ax ac,e=(16,.slice ax aJ.length ac)::d/\Stp [10,11,14,15,16] aP ce b a/\Oc Pair.ep120 120 b a 10 ax ac aJ/\b0=FX aJ) (Jv<|Ju3 [4,6,106,107] (λc d e a=>∃b x,∃L:VP,∃W ag,e=(16,.slice W L.length ag)::(108,vi x)::d/\Stp [10,11,14,15,16] aP ce b a/\Oc Pair.ep120 120 b a 10 W ag L/\0<=x/\FV ((p1.Pairs.length:Int)-x)=c/\cntM (fp p1) c x L=some b0) ⟨_,_,⟨aP,0,([]:VP),cL,cO,R,Jo3,dl,(by decide),(by simp),d2⟩,(KM R)⟩ ?_) ?_)
 rintro c _ _ ⟨bj,x,L,W,ag,rfl,cI,dm,bO,aE,h⟩
 rcases c with _|c
 exact Jf3 R<|Jq<|Jx2 R (dcf aE)<|Jc1<|Jt<|Jt<|Jb1<|Oh h<|Jw1 _ ⟨bj,L,W,ag,R,Fct,dm,R⟩<|KM R
 refine Ob h λeR h ba=>Jf3 R<|Jq<|Jw2 R (dct aE)<|Js<|Jp<|Jq<|Jv<|Jj3<|Ob h λeq bQ h=>Jd3 R a6 bQ U58 Z120 ?_
 obtain⟨_,d8,dX⟩:=((a6.stp (T11 bt aY P S T U s z bq aX cI))).gSt bQ
 obtain⟨ev,eU,ew,eV,rfl,eL,eM⟩:=Pair.un d8
 refine Jg4 tv R (Jh4 (haE dX) I120 Z120 R)<|Jy3 bj 11 R X120 R λ_ _ bk _ dn=>Tv<|Jm4 bk 11 R Z120 R dn R λ_ _ dp=>Tv<|Jd<|Jm3 1 R<|Jg4 tv R (Jh4 (haE dp.cells) I120 Z120 R)<|Ob h λN ec h=>Jw3 R call178 (uO (J:=Mk bk) (p0:=eq) Gct Gct ec) ?_
 rintro _ cg ⟨_,bz,bB,bC,bx,rfl,c1,dq,ds⟩
 exact Im c1 12 R (λaQ _ bV=>Tv<|Jb4 aQ Pair.ep120 16 [14,15] (parts:=[(0,.tmp 114)]) (cells:=[.slice bz N.Ask.length bB,.slice bC N.Give.length bx]) (xs:=([N]:VP)) R Y58 cQ R (Jj4 ⟨[.slice bz N.Ask.length bB],[.slice bC N.Give.length bx],Zl aQ cg [14],Zl aQ cg [15],R,Zl.sp (l1:=[14]) (l2:=[15]) R,Zl.sr (l1:=[14]) (l2:=[15]),⟨_,_,R,(dq.mx (bW _) bV R (R:12+2=14))⟩,⟨_,_,R,(ds.mx (bW _) bV R (R:12+3=15))⟩⟩) λex ez _ cv _ dt=>Tv<|Ob h λer ed h=>Jd4 cv Pair.ep120 10 [16] R Y58 cQ R Fct dt.src (c9 R) ed R λcW cR _ cw _ du=>Tv<|Jc 1 R<|Jz<|Jp<|Jg3 R<|wr2 bO aE a6.len_le ▸ (Ou h ba (λba=>Ja2 ⟨cw,x+1,er,cW,cR,R,Fct,du,nxz bO,nxm aE,ba⟩ R)))
 rintro _ _ ⟨bi,aJ,ax,ac,rfl,cH,_,rfl⟩
 exact have h:=yI dN;Jp (Jj3<|Jg4 tv R (Jh4 (haE (c3.stp<|aX.tr cH).cells) I53 Z53 R)<|Jn 1 R<|Jm4 bi 4 R Z53 R Fct R λ_ _ dv=>Tv<|Jb 1 R<|Ju<|Jb2 (l:=[.cell 4 53,.tmp 5]) results114 (cc R dv I53 Z53 R<|Jq2 R R) R<|Oh h<|⟨(λI=>ren [(8,2),(9,3),(10,4)]<|bi I),am,ay,Y,ak,ax,ac,R,Fct,Fct,Fct,Fct⟩)
theorem qq {v x y z}{p0:Arena}(C:Rd Ri J w 0 v x p0.Owner) (n:Rd Rs J w 0 y z p0.Next){r:Bool}(h:mF p0=some r):Ret prog 127 [.agg #[.slice v p0.Owner.length x,.slice y p0.Next.length z]] w (Pvb J w r):=by
 refine Jp3 J func127 R ntmps127 R λax=>Jj3<|Jx3 J 2 R λ_ ap M u m=>Tv<|Jb 1 R<|Jj3<|Je3 R U53 R Z30<|Jc3 R I30 (m.ld 0 R R)<|Js3 R U30 R R<|Jb 1 R<|Jq<|Jl3 3 R<|Ob h λaj h X=>Jk4 [1,3] 14 aj M ap 3 tv ?_ ?_
 exact Bk h (λag h=>Jn 3 R<|Oh h<|Jl4 tv R) (λag h=>Jn 3 R<|Oh h<|Jl4 tv R)
 rintro _ aw _ ⟨rfl,Q,e⟩
 refine Jn 1 R<|Ob X λak h S=>Jk4 [1,3] 21 ak Q aw 6 tv ?_ ?_
 exact Bk h (λaa h=>Je3 R U53 R Z51<|Jc3 R I51 ((m.stp e).ld 1 R R)<|Js3 R U51 R R<|Jn 3 R<|Oh h<|Jl4 tv R) (λaa h=>Jn 1 R<|Je4 R<|Jn 4 R<|Oh h<|Jl4 tv R)
 rintro _ K _ ⟨rfl,d,i⟩
 refine have h:=S;Jd ?_
 refine Bk h (λab h=>Jy R<|Js<|Jp<|Jq<|Jj3<|Je3 R U53 R Z51 (have A:=m.stp (e.tr i);Jc3 R I51 (A.ld 1 R R) (Js3 R U51 R R<|Jb 1 R<|Ob h λI Z D=>Jx1 (λg o=>∃p,g=[]/\Stp [] d K p o/\I=FX ()) (Jv<|Ju3 [1,3,23,24] (λc L g o=>∃p b,g=(25,vi b)::L/\Stp [] d K p o/\0<=b/\FV ((p0.Next.length:Int)-b)=c/\cntM (km p0) c b ()=some I) ⟨_,_,⟨d,0,R,Jo3,(by decide),(by simp),Z⟩,(KM R)⟩ ?_) ?_))) (λab h=>Jx R<|Jf3 R<|Ju<|Jw<|Jb2 (l:=[.tmp 2]) results127 (Jq2 R R) R<|Oh h<|⟨d,R,Fct⟩)
 rintro c _ aq ⟨q,b,rfl,j,E,f,h⟩
 rcases c with _|c
 exact Jf3 R<|Jq<|Jx2 R (dcf f)<|Jc1<|Jt<|Jt<|Jb1<|Oh h<|Jw1 _ ⟨q,R,Fct,R⟩ KN
 refine Ob h λay h a=>Jf3 R<|Jq<|Jw2 R (dct f)<|Js<|Jp<|Jq<|Jv<|Jl3 1 R<|Ob h λ_ F h=>Jd3 R n F U51 Z30 ?_
 obtain⟨_,_,_,Y⟩:=(n.stp (T4 u e i j)).gSl F
 refine Jc3 R I30 Y<|Jb 2 R<|Jj3<|Je3 R U53 R Z30 (have B:=A.stp j;Jc3 R I30 (B.ld 0 R R) (Jn 1 R<|Ob h λaz G h=>Jd3 R C G U30 Z2 (have k:=C.stp (T4 u e i j);Jc3 R I2 (k.gInt G) (Jn 2 R<|Ob h λal h T=>Jk4 [1,3,5,23,24,25] 43 al q aq 7 tv ?_ ?_))))
 exact Bk h (λac h=>Je3 R U53 R Z30<|Jc3 R I30 (B.ld 0 R R)<|Jn 1 R<|Ob h λ_ H h=>Jd3 R k H U30 Z2<|Jc3 R I2 (k.gInt H)<|Jn 2 R<|Oh h<|Jl4 tv R) (λac h=>Jn 1 R<|Je4 R<|Jn 2 R<|Je4 R<|Jn 2 R<|Oh h<|Jl4 tv R)
 rintro _ ar _ ⟨rfl,O,_⟩
 refine Jn 1 R<|Ob T λam h U=>Jk4 [1,3,5,23,24,25] 48 am O ar 4 tv ?_ ?_
 exact Bk h (λad h=>Jn 1 R<|Js3 R U30 R R<|Jn 2 R<|Oh h<|Jl4 tv R) (λad h=>Jn 4 R<|Oh h<|Jl4 tv R)
 rintro _ au _ ⟨rfl,P,_⟩
 refine Jn 1 R<|Ob U λan h V=>Jk4 [1,3,5,23,24,25] 53 an P au 4 tv ?_ ?_
 exact Bk h (λae h=>Jn 1 R<|Js3 R U30 R R<|Jn 2 R<|Oh h<|Jl4 tv R) (λae h=>Jn 4 R<|Oh h<|Jl4 tv R)
 rintro _ av _ ⟨rfl,s,_⟩
 refine Jn 1 R<|Ob V λao h W=>Jk4 [1,3,23,24,25] 59 ao s av 5 tv ?_ ?_
 exact Bk h (λaf h=>Jn 2 R<|Ob h λ_ ai h=>Jw3 R call103 (kZ (J:=Mk s) Gct ai)<|Kb λ_ _ _=>Tv<|Jn 2 R<|Oh h<|Jv1 _ tv ⟨R,_,Fct⟩<|KM R) (λaf h=>Jn 2 R<|Je4 R<|Jn 2 R<|Oh h<|Jl4 tv R)
 rintro _ _ _ ⟨rfl,t,_⟩
 refine have h:=W;Jd ?_
 exact Bk h (λah h=>Jy R<|Js<|Jz<|Jp<|Jg3 R<|wr2 E f n.len_le ▸ (Ou h a (λa=>Ja2 ⟨t,b+1,R,Fct,nxz E,nxm f,a⟩ R))) (λah h=>Jx R<|Jf3 R<|Ju<|Ja1<|Jw<|Jw<|Ou h a (λa=>Ov a D (λh=>Ja1<|Jr2<|Jw<|Jb2 (l:=[.tmp 2]) results127 (Jq2 R R) R<|Oh h<|⟨t,R,Fct⟩)))
 rintro _ _ ⟨N,rfl,_,rfl⟩
 exact have h:=yI D;Jp (Jf3 R<|Ju<|Jb2 (l:=[.tmp 2]) results127 (Jq2 R R) R<|Oh h<|⟨N,R,Fct⟩)
theorem tJ {b c d e}{p0:Arena}{p1:Int}(o:Rd Ri J w 0 b c p0.Owner) (p:Rd Rs J w 0 d e p0.Next){r:Bool}(h:lM p0 p1=some r):Ret prog 199 [.agg #[.slice b p0.Owner.length c,.slice d p0.Next.length e],vi p1] w (Pvb J w r):=by
 refine Jp3 J func199 R ntmps199 R λq=>Jj3<|Jx3 J 2 R λ_ n a _ g=>Tv<|Jb 1 R<|Jl3 3 R<|Ob h λm h i=>Jk4 [4] 12 m a n 5 tv ?_ ?_
 exact Bk h (λj h=>Jn 1 R<|Je4 R<|Je4 R<|Jn 2 R<|Oh h<|Jl4 tv R) (λj h=>Jn 1 R<|Jg4 tv R (Jh4 (haE g.cells) I53 Z53 R)<|Ob h λ_ k h=>Jw3 R call209 (rH (J:=Mk a) (p0:=p0) Gct Gct k)<|Ki λ_ _ _=>Tv<|Jn 2 R<|Oh h<|Jv1 _ tv ⟨R,_,Fct⟩<|KM R)
 rintro _ _ _ ⟨rfl,f,_⟩
 exact have h:=i;Jb 1 R (Ju<|Jb2 (l:=[.tmp 4]) results199 (Jq2 R R) R<|Oh h<|⟨f,R,Fct⟩)
theorem tO {e f}{p0:Place}{c0:Int}{d k}{a:VI}{g i}(v:Rd Ri J w 0 e f p0.Record) (x:Rd Ri J w 0 d k a) (n:Bc J w 0 g 2 [vi c0]) (o:Bc J w 0 i 30 [.slice d a.length k]){r:Bool}(h:lS p0 c0 a=some r):Ret prog 263 [.agg #[vi p0.At,.slice e p0.Record.length f],.pointer (some ⟨g,0,none⟩),.pointer (some ⟨i,0,none⟩)] w (Pvb J w r):=by
 refine Jp3 J func263 R ntmps263 R λy=>Jj3<|Jx3 J 2 R λ_ u b c j=>Tv<|Jb 1 R<|Jj3<|Je3 R U149 R Z2<|Jc3 R I2 (j.ld 0 R R)<|Jc3 R I2 ((n.stp c).ld 0 R R)<|Jn 2 R<|Ob h λt h p=>Jk4 [1,2,4] 14 t b u 5 tv ?_ ?_
 exact Bk h (λq h=>Jn 1 R<|Je4 R<|Je4 R<|Je4 R<|Jn 1 R<|Oh h<|Jl4 tv R) (λq h=>Je3 R U149 R Z30<|Jc3 R I30 (j.ld 1 R R)<|Jc3 R I30 ((o.stp c).ld 0 R R)<|Ob h λ_ s h=>Jw3 R call129 (eS (J:=Mk b) Gct Gct s)<|Kb λ_ _ _=>Tv<|Jn 1 R<|Oh h<|Jv1 _ tv ⟨R,_,Fct⟩<|KM R)
 rintro _ _ _ ⟨rfl,m,_⟩
 exact have h:=p;Jb 1 R (Ju<|Jb2 (l:=[.tmp 4]) results263 (Jq2 R R) R<|Oh h<|⟨m,R,Fct⟩)
theorem tF {k q n p}{p0:Arena}(P:Rd Ri J w 0 k q p0.Owner) (Q:Rd Rs J w 0 n p p0.Next){r:Arena}(h:lJ p0=some r):Ret prog 201 [.agg #[.slice k p0.Owner.length q,.slice n p0.Next.length p]] w (λM c=>∃d t v u x,M= .agg #[.slice t r.Owner.length v,.slice u r.Next.length x]/\Ent J w d c/\Oc E6 2 d c 2 t v r.Owner/\Oc (FU E6 2) 30 d c 3 u x r.Next):=by
 exact Jp3 J func201 R ntmps201 R λS=>Jj3<|Jx3 J 2 R λ_ _ B _ I=>Tv<|Jy3 B 3 R X53 R λ_ _ f C _=>Tv<|Jd<|Jq<|Xn f [2] [5,14,6,15,1,10,19,23,25] λ_ D=>Je3 R U53 R Z30<|Je3 R U53 R Z51 (have s:=I.stp (C.tr D);Jg R (Jd2 I30 R R<|hvC (s.ld 0 R R) R) (Jg R (Jd2 I51 R R<|hvC (s.ld 1 R R) R)<|Jc4 f E6 4 R Y30 bS R λ_ _ _ z a F=>⟨(a.cl R),Ob h λN K h=>Jd4 z E6 4 [] R Y30 bS R F (FY (cd _) Fct) bU K R λj y _ A b _=>⟨((a.tr b).cl R),Ob h λO L h=>Jw3 R call243 (tG (J:=Mk A) Gct L)<|Ks 7 (cF (bW _) _) λm o _ e g G=>⟨((T3 a b g).cl R),Jf R (Jn4 [.slice j N.length y,.slice m O.length o] R)<|Jm4 e 3 R Z53 R Fct R λ_ i H=>⟨((T4 a b g i).cl R),Jt1<|Jd<|Ju<|Jb2 (l:=[.cell 2 53]) results201 (cc R H I53 Z53 R R) R<|Oh h<|⟨(λE=>ren [(4,2),(7,3)]<|e E),j,y,m,o,R,Fct,Fct,((G.stp i).map (ren [(4,2),(7,3)]) R R)⟩⟩⟩⟩⟩))
theorem fj {o z}{p0:VI}{q p}{c1_0:VL}{g:Int}{s t}(i:Rd Ri J w 0 o z p0) (G:Rd Place.rp J w 0 q p c1_0) (H:Bc J w 0 s 126 [.slice q c1_0.length p]) (I:Bc J w 0 t 2 [vi g]){r:Int}(h:cB p0 c1_0 g=some r):Ret prog 117 [.slice o p0.length z,.func (.func 197) #[] #[.pointer (some ⟨s,0,none⟩),.pointer (some ⟨t,0,none⟩)]] w (Pvi J w r):=by
 refine Jp3 J func117 R ntmps117 R λK=>Jf3 R<|Jq<|Jl3 1 R<|Js3 R U30 R R<|Jb 1 R<|Ob h λy D u=>Jt3 [1] (λe f j=>∃k,f=e/\Stp [] J w k j/\y=FX ()) (Jv<|Ju3 [0,1,7] (λc e f j=>∃k b,f=(8,vi b)::e/\Stp [] J w k j/\0<=b/\FV ((p0.length:Int)-b)=c/\cntM (cH p0 c1_0 g) c b ()=some y) ⟨_,_,⟨J,0,R,Jo3,(by decide),(by simp),D⟩,(KM R)⟩ ?_) ?_
 rintro c _ _ ⟨n,b,rfl,B,v,d,h⟩
 rcases c with _|c
 exact Jf3 R<|Jq<|Jx2 R (dcf d)<|Jc1<|Jt<|Jt<|Jb1<|Oh h<|Jw1 _ ⟨n,R,Fct,R⟩<|KM R
 refine Ob h λL h a=>Jf3 R<|Jq<|Jw2 R (dct d)<|Js<|Jp<|Jq<|Jv<|Jf3 R<|Jl3 3 R<|Ob h λ_ x h=>Jd3 R i x U30 Z2<|Jc3 R I2 ((i.stp B).gInt x)<|Ob h λM F h=>WO.callV R R R R R R R R call197 (rE (J:=Mk n) Gct Fct Fct F) ?_
 rintro _ _ ⟨_,rfl,C⟩
 refine Im C 2 R (λm _ _=>Tv<|Jd ?_)
 exact Bk h (λE h=>Jy R<|Js<|Jz<|Jp<|Jg3 R<|wr2 v d i.len_le ▸ (Ou h a (λa=>Ja2 ⟨m,b+1,R,Fct,nxz v,nxm d,a⟩ R))) (λE h=>Jx R<|Jf3 R<|Ju<|Ja1<|Jw<|Jw<|Ou h a (λa=>Ov a u (λh=>Ja1<|Jr2<|Jw<|Jb2 (l:=[.tmp 4]) V117 (Jq2 R R) R<|Oh h<|⟨m,R,Fct⟩)))
 rintro _ _ ⟨A,rfl,_,rfl⟩
 exact have h:=yI u;Jp (Jf3 R<|Ju<|Jb2 (l:=[.tmp 4]) V117 (Jq2 R R) R<|Oh h<|⟨A,R,Fct⟩)
theorem fJ (n:Nat):∀{w:World}{J:Col}{p0:Int}{D O}{p1:VV}{v u}{j:VI}{c f}{c0:VB}{E P}{i:VB}{d y z A}(H:Rd Rs J w 0 D O p1) (ac:Oc E6 2 J w 2 v u j) (I:Oc FT 4 J w 3 c f c0) (K:Rd Rp.bool J w 0 E P i) (ad:Bc J w 4 d 30 [.slice v j.length u]) (L:Bc J w 0 y 179 [.slice c c0.length f]) (X:Bc J w 0 z 179 [.slice E i.length P]) (Y:Bc J w 0 A 290 [.func (.func 267) #[] #[.pointer (some ⟨y,0,none⟩),.pointer (some ⟨z,0,none⟩),.pointer (some ⟨A,0,none⟩)]]){r:VI×VB}(h:bZ n p0 p1 j c0 i=some r),Ret prog 267 [vi p0,.slice D p1.length O,.func (.func 268) #[] #[.pointer (some ⟨d,0,none⟩)],.pointer (some ⟨y,0,none⟩),.pointer (some ⟨z,0,none⟩),.pointer (some ⟨A,0,none⟩)] w (λa8 a=>∃b al am,a8= .tuple #[]/\Ent J w b a/\Oc E6 2 b a 2 al am r.1/\Oc FT 4 b a 3 c f r.2/\c0.length=r.2.length/\Bc b a 4 d 30 [.slice al r.1.length am]):=by
 induction n with
 |zero=>
  intro w J p0 D O p1 v u j c f c0 E P i d y z A H ac I K ad L X Y r h
  cases h
 |succ n a6=>
  intro w J p0 D O p1 v u j c f c0 E P i d y z A H ac I K ad L X Y r h
  have h:cn (bZ n) p0 p1 j c0 i=some r:=h
  unfold cn at h
  refine Jp3 J func267 R ntmps267 R λbc=>Jj3<|Jc3 R I179 (L.ld 0 R R)<|Jn 1 R<|Ob h λ_ a3 h=>Jd3 R I.rdc a3 U179 Z4<|Ob h λar aj h=>Jk1 (J:=J) (E:=FT) 3 [] R R R R R R R R Z4 R R R R I aj λap Q s aJ=>Tv<|?_
  have a0:c0.length=ar.length:=(Ju2 aj).2.2.2.symm
  refine Jd<|Jq<|Jl3 2 R<|Ob h λaq af h=>Jd3 R H af U51 Z30 ?_
  have aQ:=H.stp s
  obtain⟨_,_,W,aX⟩:=aQ.gSl af
  refine Jc3 R I30 aX<|Js3 R U30 R R<|Jb 1 R<|Ob h λao a2 aU=>?_
  clear h
  refine Jt3 [0,2,3,4,5] (λk p a=>∃b,∃m:VI×VB,∃U T,p=k/\Stp [2,3,4,7,8,9] Q ap b a/\Oc E6 2 b a 2 U T m.1/\Oc FT 4 b a 3 c f m.2/\c0.length=m.2.length/\Bc b a 4 d 30 [.slice U m.1.length T]/\ao=FX m) ?_ ?_
  refine Jv<|Ju3 [0,1,2,3,4,5,17,18] (λC k p a=>∃b o,∃e:VI×VB,∃t x,p=(19,vi o)::k/\Stp [2,3,4,7,8,9] Q ap b a/\Oc E6 2 b a 2 t x e.1/\Oc FT 4 b a 3 c f e.2/\c0.length=e.2.length/\Bc b a 4 d 30 [.slice t e.1.length x]/\0<=o/\FV ((aq.length:Int)-o)=C/\cntM (cm (bZ n) p1 i aq) C o e=some ao) ⟨_,_,⟨Q,0,(j,ar),v,u,R,Jo3,Fct,aJ,a0,Fct,(by decide),(by simp),a2⟩,(KM R)⟩ ?_
  rintro C _ a9 ⟨ab,o,e,t,x,rfl,q,aF,V,B,aG,ae,M,h⟩
  rcases C with _|C
  have N:=h;obtain⟨a7,h⟩:=exq N
  have Z:=dcf M
  refine Jf3 R<|Jq<|Jx2 R Z<|Jc1<|Jt<|Jt ?_
  cases h
  have h:=N
  refine Jb1 ?_
  cases h
  exact Jw1 _ ⟨ab,(e.1,e.2),t,x,R,Fct,aF,V,B,aG,R⟩<|KM R
  obtain⟨a7,h,N⟩:=BI h;unfold cm at h
  have Z:=dct M
  refine Jf3 R<|Jq<|Jw2 R Z<|Js<|Jp<|Jq<|Jv<|Jj3<|Ob h λ_ ag h=>Jd3 R W ag U30 Z2<|Jc3 R I2 ((W.stp q).gInt ag)<|Jb 1 R<|Jj3 ?_
  have aH:=X.stp (s.tr q)
  refine Jc3 R I179 (aH.ld 0 R R)<|Jn 1 R<|Ob h λbb ah h=>Jd3 R K ah U179 Z4 ?_
  have aI:=K.stp (s.tr q)
  refine Jc3 R I4 (aI.gBool ah)<|Jn 1 R<|Ob h λan h aV=>Jk4 [0,1,2,3,4,5,10,17,18,19] 33 an ab a9 6 tv ?_ ?_
  revert h
  cases bd:bb
  refine JF λh=>Je4 R<|Jn 2 R<|Je4 R<|Jn 2 R ?_
  cases h
  exact Jl4 tv R
  refine JT λh=>Jc3 R I179 ((L.stp<|s.tr q).ld 0 R R)<|Jn 1 R<|Ob h λ_ ai h=>Jf R (Jg2 V.rdc ai U179 Z4 R R B R)<|Jc3 R I4 (V.rdc.gBool ai)<|Jn 2 R ?_
  cases h
  exact Jl4 tv R
  rintro _ ba _ ⟨rfl,S,ay⟩
  have h:=aV
  refine Jd<|Ob h λl h aW=>Jt3 [0,1,2,3,4,5,17,18,19] (λk p a=>∃b G F,p=k/\Stp [2,3,4,7,8,9] S ba b a/\Oc E6 2 b a 2 G F l.1/\Oc FT 4 b a 3 c f l.2/\c0.length=l.2.length/\Bc b a 4 d 30 [.slice G l.1.length F]) ?_ ?_
  revert h
  cases be:an
  refine JF λh=>Jy R<|Js ?_
  cases h
  exact Jw1 _ ⟨S,t,x,R,Jo3,Fct,Fct,B,Fct⟩<|KM R
  refine JT λh=>Jx R<|Jk3 ?_
  have aN:=Y.stp (T3 s q ay)
  refine Jc3 R isAgg290 (aN.ld 0 R R)<|Jn 3 R<|Ob h λ_ a4 h=>WO.callV R R R R R R R R call267 (a6 (J:=λg=>mp [(2,2),(3,3),(4,4)] 0<|S g) (Jm2 Fct (mp [(2,2),(3,3),(4,4)] 0) R R) Fct Fct (Jm2 Fct (mp [(2,2),(3,3),(4,4)] 0) R R) Fct (Bc.cast Fct (by simp only[B])) Fct Fct a4) ?_
  rintro _ _ ⟨_,aB,az,rfl,aD,aO,aP,a1,aR⟩
  obtain⟨aw,_,aa⟩:=Ji aD 5 R
  refine Tv<|Jo ?_
  cases h
  exact Jw1 _ ⟨(λg=>ren [(7,2),(8,3),(9,4)]<|aw g),aB,az,R,Fct,((aO.mx (bW _) aa R (R:5+2=7)).map (ren [(7,2),(8,3),(9,4)]) R R),((aP.mx dB aa R (R:5+3=8)).map (ren [(7,2),(8,3),(9,4)]) R R),(B.trans a1),((aR.mx aa R (R:5+4=9)).map (ren [(7,2),(8,3),(9,4)]) R R)⟩<|KM R
  rintro _ _ ⟨av,G,F,rfl,_,aK,aL,aZ,aM⟩
  have h:=aW
  refine Jz<|Jp<|Jg3 R<|wr2 ae M W.len_le ▸ ?_
  cases h
  exact Ja2 ⟨av,o+1,(l.1,l.2),G,F,R,Fct,aK,aL,aZ,aM,nxz ae,nxm M,N⟩ R
  rintro _ _ ⟨au,m,U,T,rfl,_,_,_,aY,_,rfl⟩
  have h:=yI aU
  refine Jp<|Jm3 2 R<|Ob h λ_ a5 h=>WO.callV R R R R R R R R call268 (tL (J:=λg=>mp [(2,2),(4,3)] 0<|au g) Fct Fct a5) ?_
  rintro _ _ ⟨_,aA,aC,rfl,aE,aS,aT⟩
  obtain⟨ax,_,ak⟩:=Ji aE 5 R
  refine Tv<|Jo<|DN.end0 results267 ?_
  cases h
  exact⟨(λg=>ren [(7,2),(8,4)]<|ax g),aA,aC,R,Fct,((aS.mx (bW _) ak R (R:5+2=7)).map (ren [(7,2),(8,4)]) R R),Fct,aY,((aT.mx ak R (R:5+3=8)).map (ren [(7,2),(8,4)]) R R)⟩
theorem wU {e f c d}{p0:Clause}{p1:Int}{p2:Int}(V:Rd Ri J w 0 e f p0.A) (W:Rd Ri J w 0 c d p0.B){r:Int}(h:pA p0 p1 p2=some r):Ret prog 88 [.agg #[vi p0.Kind,.slice e p0.A.length f,.slice c p0.B.length d],vi p1,vi p2] w (Pvi J w r):=by
 refine Jp3 J func88 R ntmps88 R λX=>Jj3<|Jx3 J 2 R λ_ _ m _ i=>Tv<|Jb 1 R<|Jj3<|Je3 R U32 R Z30<|Jc3 R I30 (i.ld 1 R R)<|Jn 1 R<|Ob h λ_ L h=>Jw3 R call96 (lu (J:=Mk m) Gct L)<|Kb λ_ s t=>Tv<|Ob h λ_ M h=>Jw3 R call95 (oJ (J:=Mk s) M)<|Ki λ_ k u=>Tv<|Jb 1 R<|Jj3<|Je3 R U32 R Z30 (have g:=i.stp (t.tr u);Jc3 R I30 (g.ld 2 R R) (Jn 1 R<|Ob h λ_ N h=>Jw3 R call96 (lu (J:=Mk k) Gct N)<|Kb λ_ n v=>Tv<|Ob h λY O h=>Jw3 R call95 (oJ (J:=Mk n) O)<|Ki λj a x=>Tv<|Jb 1 R<|Jq<|Jj3<|Je3 R U32 R Z2<|Jc3 R I2 ((g.stp<|v.tr x).ld 0 R R)<|Jd<|Jv<|Jf3 R ?_))
 refine Bk h (λA h=>Jy R<|Jf3 R ?_) (λA h=>Jx R<|Jl3 3 R<|Ob h λ_ P h=>Jw3 R call147 (nI (J:=Mk a) P)<|Ki λ_ o _=>Tv<|Jb 1 R<|Ju<|Ja1<|Jw<|Jb2 (l:=[.tmp 6]) V88 (Jq2 R R) R<|Oh h<|⟨o,R,Fct⟩)
 refine Bk h (λB h=>Jy R<|Jf3 R ?_) (λB h=>Jx R<|Jq<|Jl3 3 R<|Ob h λU h y=>Jk4 [7] 38 U a j 7 tv ?_ ?_)
 refine Bk h (λF h=>Jy R<|Jf3 R ?_) (λF h=>Jx R<|Jq<|Jf3 R ?_)
 refine Bk h (λH h=>Jy R<|Jf3 R ?_) (λH h=>Jx R<|Jf3 R<|Ju<|Ja1<|Jw<|Jb2 (l:=[.tmp 6]) V88 (Jq2 R R) R<|Oh h<|⟨a,R,Fct⟩)
 refine Bk h (λI h=>Jy R<|Jf3 R ?_) (λI h=>Jx R<|Jf3 R<|Ju<|Ja1<|Jw<|Jb2 (l:=[.tmp 6]) V88 (Jq2 R R) R<|Oh h<|⟨a,R,Fct⟩)
 exact Bk h (λK h=>Jy R<|Js<|Jz<|Jp<|Jf3 R<|Ju<|Jb2 (l:=[.tmp 6]) V88 (Jq2 R R) R<|Oh h<|⟨a,R,Fct⟩) (λK h=>Jx R<|Jl3 2 R<|Ob h λ_ S h=>Jw3 R call147 (nI (J:=Mk a) S)<|Ki λ_ q _=>Tv<|Jb 1 R<|Ju<|Ja1<|Jw<|Jb2 (l:=[.tmp 6]) V88 (Jq2 R R) R<|Oh h<|⟨q,R,Fct⟩)
 exact Bk h (λG h=>Jy R<|Js<|Jp<|Jl3 2 R<|Ob h λ_ Q h=>Jw3 R call147 (nI (J:=Mk a) Q)<|Ki λ_ p _=>Tv<|Jb 1 R<|Ju<|Ja1<|Jw<|Jb2 (l:=[.tmp 6]) V88 (Jq2 R R) R<|Oh h<|⟨p,R,Fct⟩) (λG h=>Jx R<|Jf3 R<|Ju<|Jw<|Ja1<|Jw<|Jb2 (l:=[.tmp 6]) V88 (Jq2 R R) R<|Oh h<|⟨a,R,Fct⟩)
 refine Bk h (λC h=>Jn 3 R<|Ob h λT h z=>Jk4 [7,31] 37 T a j 3 tv ?_ ?_) (λC h=>Jn 7 R<|Oh h<|Jl4 tv R)
 exact Bk h (λD h=>Jn 3 R<|Oh h<|Jl4 tv R) (λD h=>Jn 3 R<|Oh h<|Jl4 tv R)
 rintro _ _ _ ⟨rfl,_,_⟩
 exact have h:=z;Jn 1 R (Oh h<|Jv1 _ tv ⟨R,_,Fct⟩<|KM R)
 rintro _ _ _ ⟨rfl,b,_⟩
 refine have h:=y;Jd ?_
 exact Bk h (λE h=>Jy R<|Js<|Jp<|Jf3 R<|Ju<|Ja1<|Jw<|Jb2 (l:=[.tmp 6]) V88 (Jq2 R R) R<|Oh h<|⟨b,R,Fct⟩) (λE h=>Jx R<|Jf3 R<|Ju<|Jw<|Ja1<|Jw<|Jb2 (l:=[.tmp 6]) V88 (Jq2 R R) R<|Oh h<|⟨b,R,Fct⟩)
theorem pR {ar aI}{p0:VP}{au aJ}{p1:VV}{p2:Int}(aa:Rd Pair.rp J w 0 ar aI p0) (ab:Rd Rs J w 0 au aJ p1){r:VP}(h:lA p0 p1 p2=some r):Ret prog 146 [.slice ar p0.length aI,.slice au p1.length aJ,vi p2] w (Pvs Pair.ep120 120 J w r):=by
 refine Jp3 J func146 R ntmps146 R λbX=>Jf3 R<|Jj3<|Jc4 J Pair.ep120 2 R Y58 cQ R λaY aX aK M an bc=>Tv<|Jb 1 R<|Jq<|Jf3 R<|Ob h λaG bs bk=>Jx1 (λd a=>∃b,∃L:VP,∃G B,d=[(7,.slice G L.length B)]/\Stp [2,3,4,5,6] M aK b a/\Oc Pair.ep120 120 b a 2 G B L/\aG=FX L) (Jv<|Ju3 [0,1,2] (λe i d a=>∃b m,∃y:VP,∃C D,d=(7,.slice C y.length D)::(8,vi m)::i/\Stp [2,3,4,5,6] M aK b a/\Oc Pair.ep120 120 b a 2 C D y/\0<=m/\FV ((p0.length:Int)-m)=e/\cntM (jV p0 p1 p2) e m y=some aG) ⟨_,_,⟨M,0,([]:VP),aY,aX,R,Jo3,bc,(by decide),(by simp),bs⟩,(KM R)⟩ ?_) ?_
 rintro e _ _ ⟨ah,m,y,C,D,rfl,ak,a4,az,I,h⟩
 rcases e with _|e
 exact Jq<|Jl3 2 R<|Js3 R U58 R R<|Jb 1 R<|Jx2 R (dcf I)<|Jc1<|Jt<|Jt<|Jb1<|Oh h<|Jw1 _ ⟨ah,y,C,D,R,Fct,a4,R⟩<|KM R
 refine Ob h λo5 h ac=>Jq<|Jl3 2 R<|Js3 R U58 R R<|Jb 1 R<|Jw2 R (dct I)<|Js<|Jp<|Jq<|Jv<|Jj3<|Jf R (Jn4 [.slice none 0 0,.slice none 0 0] R)<|Jy3 ah 3 R X120 R λH _ z al a5=>Tv<|Jm4 z 3 R Z120 R a5 R λaL am a6=>Tv<|Jd<|Jq<|Jf3 R<|Ob h λaH br bi=>Jt3 [0,1,2,7,8,9] (λi d a=>∃b,∃c:VI×VI,∃q s v p,d=i/\Stp [3,4,5] z aL b a/\Oc E6 2 b a 4 q s c.1/\Oc E6 2 b a 5 v p c.2/\Bc b a 3 H 120 [.slice q c.1.length s,.slice v c.2.length p]/\aH=FX c) (Jv<|Ju3 [0,1,2,7,8,9] (λe i d a=>∃b g,∃f:VI×VI,∃u t j k,d=(10,vi g)::i/\Stp [3,4,5] z aL b a/\Oc E6 2 b a 4 u t f.1/\Oc E6 2 b a 5 j k f.2/\Bc b a 3 H 120 [.slice u f.1.length t,.slice j f.2.length k]/\0<=g/\FV ((p1.length:Int)-g)=e/\cntM (jW p0 p1 p2 m) e g f=some aH) ⟨_,_,⟨z,0,(([]:VI),([]:VI)),none,0,none,0,R,Jo3,Ow.nil,Ow.nil,a6,(by decide),(by simp),br⟩,(KM R)⟩ ?_) ?_
 rintro e _ _ ⟨O,g,f,u,t,j,k,rfl,ao,ba,bb,av,bm,ay,h⟩
 rcases e with _|e
 exact Jq<|Jl3 2 R<|Js3 R U51 R R<|Jb 1 R<|Jx2 R (dcf ay)<|Jc1<|Jt<|Jt<|Jb1<|Oh h<|Jw1 _ ⟨O,(f.1,f.2),u,t,j,k,R,Fct,ba,bb,av,R⟩<|KM R
 refine Ob h λbY h ad=>have K:=dct ay;Jq (Jl3 2 R<|Js3 R U51 R R<|Jb 1 R<|Jw2 R K<|Js<|Jp<|Jq<|Jv<|Jq<|Jq<|Xn O [0] [2,5,8,11,17,20,23,29,12,24,32,33,37] λ_ S=>Jn 2 R<|Ob h λ_ aA h=>Jd3 R aa aA U58 Z120<|Je3 R U120 R Z30<|Jn 2 R<|Ob h λ_ aB h=>Jd3 R ab aB U51 Z30<|Jn 1 R ?_)
 have Y:=aa.stp (T6 an ak al am ao S)
 obtain⟨_,bt,bp⟩:=(Y).gSt aA
 obtain⟨bN,bZ,bO,b0,rfl,bR,bT⟩:=Pair.un bt
 refine Jg R (Jd2 I30 R R<|hvC (λa ae=>bp a ae 0 _ R) R) ?_
 have Z:=ab.stp (T6 an ak al am ao S)
 obtain⟨_,_,aw,bn⟩:=Z.gSl aB
 refine Jg R (Jd2 I30 R R<|hvC bn R)<|Ob h λ_ aC h=>Jd3 R aw aC U30 Z2<|Jg R (Jd2 I2 R R<|hvC (aw.gInt aC) R)<|Ob h λb3 bz h=>Jw3 R call96 (lu (J:=Mk O) Gct bz)<|Kb λbE P A=>⟨(A.cl R),Jt1<|Jd<|Ob h λx h bj=>Jt3 [0,1,2,7,8,9,10] (λi d a=>∃b n o,d=i/\Stp [3,4] P bE b a/\Oc E6 2 b a 4 n o x/\Bc b a 3 H 120 [.slice n x.length o,.slice j f.2.length k]) ?_ ?_⟩
 exact Bk h (λbv h=>Jy R<|Js<|Oh h<|Jw1 _ ⟨P,u,t,R,Jo3,Fct,Fct⟩<|KM R) (λbv h=>Jx R<|Jk3<|Je3 R U120 R Z30<|Jc3 R I30 ((av.stp<|S.tr A).ld 0 R R)<|Jn 1 R<|Ji4 P 8 [g] R Y30 bS R λbI bM _ aS _ be=>Tv<|Ob h λaN bA h=>Jd4 aS E6 4 [] R Y30 bS R Fct (FY (cd _) be.rdc) bU bA R λX W _ aj _ _=>Tv<|Je3 R U120 R Z30<|Jz3 aj 3 (off:=0) (vc:=[.slice X aN.length W]) (cs':=[.slice X aN.length W,.slice j f.2.length k]) R Z30 R Fct R λ_ _ bf=>Tv<|Jo<|Oh h<|Jw1 _ ⟨aj,X,W,R,Fct,Fct,bf⟩<|KM R)
 rintro _ _ ⟨ai,n,o,rfl,ap,_,bd⟩
 refine have h:=bj;Jp (Jq<|Xn ai [0] [2,5,8,11,17,20,23,29,12,24,32,33,37] λ_ T=>Jn 2 R<|Ob h λ_ aD h=>Jd3 R Y aD U58 Z120<|Je3 R U120 R Z30<|Jn 2 R<|Ob h λ_ aE h=>Jd3 R Z aE U51 Z30<|Jn 1 R ?_)
 obtain⟨_,bu,bq⟩:=((Y.stp (T3 A ap T))).gSt aD
 obtain⟨bP,b1,bQ,b2,rfl,bV,bW⟩:=Pair.un bu
 refine Jg R (Jd2 I30 R R<|hvC (λa ae=>bq a ae 1 _ R) R) ?_
 obtain⟨_,_,ax,bo⟩:=(Z.stp (T3 A ap T)).gSl aE
 refine Jg R (Jd2 I30 R R<|hvC bo R)<|Ob h λ_ aF h=>Jd3 R ax aF U30 Z2<|Jg R (Jd2 I2 R R<|hvC (ax.gInt aF) R)<|Ob h λb4 bB h=>Jw3 R call96 (lu (J:=Mk ai) Gct bB)<|Kb λbF Q aq=>⟨(aq.cl R),Jt1<|Jd<|Ob h λaf h bl=>Jt3 [0,1,2,7,8,9,10] (λi d a=>∃b E F,d=i/\Stp [3,5] Q bF b a/\Oc E6 2 b a 5 E F af/\Bc b a 3 H 120 [.slice n x.length o,.slice E af.length F]) ?_ ?_⟩
 exact Bk h (λbw h=>Jy R<|Js<|Oh h<|Jw1 _ ⟨Q,j,k,R,Jo3,Fct,Fct⟩<|KM R) (λbw h=>Jx R<|Jk3<|Je3 R U120 R Z30<|Jc3 R I30 ((bd.stp<|T.tr aq).ld 1 R R)<|Jn 1 R<|Ji4 Q 10 [g] R Y30 bS R λbL bJ _ aP _ aZ=>Tv<|Ob h λaO bC h=>Jd4 aP E6 5 [] R Y30 bS R Fct (FY (cd _) aZ.rdc) bU bC R λV U _ ag _ _=>Tv<|Je3 R U120 R Z30<|Jz3 ag 3 (off:=1) (vc:=[.slice V aO.length U]) (cs':=[.slice n x.length o,.slice V aO.length U]) R Z30 R Fct R λ_ _ a1=>Tv<|Jo<|Oh h<|Jw1 _ ⟨ag,V,U,R,Fct,Fct,a1⟩<|KM R)
 rintro _ _ ⟨aU,E,F,rfl,_,bg,bh⟩
 refine have h:=bl;Jz (Jp<|Jg3 R ?_)
 have bx:FW .i64 (g+1)=g+1:=wr1 bm (Jn2 K) ab.len_le
 rw[bx]
 exact have K:=Jn2 K;Ou h ad (λad=>Ja2 ⟨aU,g+1,(x,af),n,o,E,F,R,Fct,Fct,bg,bh,by omega,by omega,ad⟩ R)
 rintro _ aM ⟨N,c,q,s,v,p,rfl,_,a7,a8,a9,rfl⟩
 exact have h:=yI bi;Jp (Jm3 1 R<|Jg4 tv R (Jh4 (haE a9.cells) I120 Z120 R)<|Jb4 N Pair.ep120 6 [4,5] (parts:=[(0,.tmp 64)]) (cells:=[.slice q c.1.length s,.slice v c.2.length p]) (xs:=([(⟨c.1,c.2⟩:Pair)]:VP)) R Y58 cQ R (Jj4 ⟨[.slice q c.1.length s],[.slice v c.2.length p],Zl N aM [4],Zl N aM [5],R,Zl.sp (l1:=[4]) (l2:=[5]) R,Zl.sr (l1:=[4]) (l2:=[5]),⟨_,_,R,a7⟩,⟨_,_,R,a8⟩⟩) λbK bH _ aQ _ a2=>Tv<|Ob h λbG bD h=>Jd4 aQ Pair.ep120 2 [6] R Y58 cQ R Fct a2.src (c9 R) bD R λaV aW _ aR _ a3=>Tv<|Jc 1 R<|Jz<|Jp<|Jg3 R<|wr2 az I aa.len_le ▸ (Ou h ac (λac=>Ja2 ⟨aR,m+1,bG,aV,aW,R,Fct,a3,nxz az,nxm I,ac⟩ R)))
 rintro _ _ ⟨aT,L,G,B,rfl,_,a0,rfl⟩
 exact have h:=yI bk;Jp (Jf3 R<|Ju<|Jb2 (l:=[.tmp 6]) results146 (Jq2 R R) R<|Oh h<|⟨aT,G,B,R,Fct,a0⟩)
theorem yp {i m}{p0:VI}{p1:Int}(a:Rd Ri J w 0 i m p0){r:VI}(h:lw p0 p1=some r):Ret prog 210 [.slice i p0.length m,vi p1] w (λah b=>∃c z A,ah= .slice z r.length A/\Ent J w c b/\Rd Ri c b 0 z A r):=by
 refine Jp3 J func210 R ntmps210 R λau=>Jf3 R<|Jf3 R<|Jq<|Ob h λy X W=>Jt3 [0,1] (λf g b=>∃c k,g=(5,vi k)::f/\Stp [] J w c b/\y=FX k) (Jv<|Ju3 [0,1] (λe f g b=>∃c d,g=(5,vi d)::f/\Stp [] J w c b/\ci (iH p0 p1) e d=some y) ⟨_,_,⟨J,(0:Int),R,Jo3,X⟩,(KM R)⟩ ?_) ?_
 rintro e _ ak ⟨H,d,rfl,M,h⟩
 rcases e with _|e
 cases h
 refine Ob h λ_ h s=>Jq<|Jl3 2 R<|Js3 R U30 R R<|Jn 2 R<|Ob h λaf h U=>Jk4 [0,1,5] 18 af H ak 7 tv ?_ ?_
 exact Bk h (λY h=>Jn 3 R<|Je4 R<|Jn 3 R<|Oh h<|Jl4 tv R) (λY h=>Jn 2 R<|Ob h λ_ t h=>Jd3 R a t U30 Z2<|Jc3 R I2 ((a.stp M).gInt t)<|Jn 3 R<|Oh h<|Jl4 tv R)
 rintro _ _ _ ⟨rfl,n,_⟩
 refine have h:=U;Jd ?_
 refine Bk h (λZ h=>Jy R<|Jc1<|Jt<|Jt ?_) (λZ h=>Jx R<|Js<|Jp<|Jv<|Jg3 R<|Jz ?_)
 cases h
 exact have h:=s;Jb1 (Oh h<|Jw1 _ ⟨n,d,R,Fct,R⟩<|KM R)
 cases h
 exact Ja2 ⟨n,((FW .i64<|d+1):Int),R,Fct,s⟩ R
 rintro _ ai ⟨E,k,rfl,q,rfl⟩
 refine have h:=yI W;Jp (Jq<|Jl3 2 R<|Js3 R U30 R R<|Jn 2 R<|Ob h λag h V=>Jk4 [0,1,5] 32 ag E ai 7 tv ?_ ?_)
 exact Bk h (λaa h=>Jn 3 R<|Je4 R<|Jn 3 R<|Oh h<|Jl4 tv R) (λaa h=>Jn 2 R<|Ob h λ_ u h=>Jd3 R a u U30 Z2<|Jc3 R I2 ((a.stp q).gInt u)<|Jn 3 R<|Oh h<|Jl4 tv R)
 rintro _ _ _ ⟨rfl,o,I⟩
 refine have h:=V;Jd ?_
 refine Bk h (λab h=>Jy R<|Js<|Jp<|Jl3 2 R<|Ob h λ_ v h=>Jf R (oD (k1:= .i64) (k2:= .i64) U30 Z2 (.inl ⟨R,R⟩) (.inr ⟨_,R,R⟩) v a.1 R R R) (have j:=a.stp (q.tr I);Ob h λ_ ac h=>Jw3 R call151 (oI (J:=Mk o) (Jn3<|j.sub v) ac)<|Ks 4 (bW _) λan aq _ B K P=>Tv<|Jn 1 R<|Ji4 B 5 [p1] R Y30 bS R λap ao _ C p Q=>Tv<|Ob h λ_ ad h=>Jd4 C E6 4 [] R Y30 bS R (P.stp p) (FY (cd _) Q.rdc) bU ad R λam ar _ D L S=>Tv<|Jb 1 R<|Jl3 3 R<|Ob h λ_ x h=>Jf R (oD (k1:= .i64) (k2:= .i64) U30 Z2 (.inr ⟨_,R,R⟩) (.inl ⟨R,R⟩) x j.1 R R R)<|Ob h λ_ ae h=>Jd4 D E6 4 [] R Y30 bS R S (FY (cd _) ((j.stp<|T3 K p L).sub x)) bU ae R λN O aj F _ T=>Tv<|Jb 1 R<|Ju ?_)) (λab h=>Jx R<|Jf3 R<|Ju<|Jw<|Jb2 (l:=[.tmp 4]) results210 (Jq2 R R) R<|Oh h<|⟨o,i,m,R,Fct,Fct⟩)
 obtain⟨G,_,al⟩:=eD F aj 4
 exact Jb2 (l:=[.tmp 4]) results210 (Jq2 R R) R<|Oh h<|⟨G,N,O,R,Fct,(Sl.st al T.rdc)⟩
theorem wO {o x}{p0:VL}{p1:Int}{p y}{p2:VI}(j:Rd Place.rp J w 0 o x p0) (T:Rd Ri J w 0 p y p2){r:Int}(h:px p0 p1 p2=some r):Ret prog 154 [.slice o p0.length x,vi p1,.slice p p2.length y] w (Pvi J w r):=by
 refine Jp3 J func154 R ntmps154 R λU=>Jf3 R<|Jq<|Jf3 R<|Ob h λv F q=>Jx1 (λg a=>∃m,g=[]/\Stp [] J w m a/\v=FX ()) (Jv<|Ju3 [0,1,2] (λd z g a=>∃m c,g=(7,vi c)::z/\Stp [] J w m a/\0<=c/\FV ((p0.length:Int)-c)=d/\cntM (kI p0 p1 p2) d c ()=some v) ⟨_,_,⟨J,0,R,Jo3,(by decide),(by simp),F⟩,(KM R)⟩ ?_) ?_
 rintro d _ N ⟨f,c,rfl,B,s,e,h⟩
 rcases d with _|d
 exact Jq<|Jl3 2 R<|Js3 R U126 R R<|Jb 1 R<|Jx2 R (dcf e)<|Jc1<|Jt<|Jt<|Jb1<|Oh h<|Jw1 _ ⟨f,R,Fct,R⟩ KN
 refine Ob h λV h b=>Jq<|Jl3 2 R<|Js3 R U126 R R<|Jb 1 R<|Jw2 R (dct e)<|Js<|Jp<|Jq<|Jv<|Jl3 2 R<|Ob h λY t h=>Jd3 R j t U126 Z149<|Je3 R U149 R Z2 ?_
 have i:=j.stp B
 obtain⟨_,G,D⟩:=(i).gSt t
 obtain⟨O,W,rfl,Q⟩:=Place.un G
 refine Jc3 R I2 (λa k=>D a k 0 _ R)<|Jn 3 R<|Ob h λM h C=>Jk4 [0,1,2,7] 29 M f N 8 tv ?_ ?_
 refine Bk h (λI h=>Jn 4 R<|Je4 R<|Jn 1 R<|Je4 R<|Jn 1 R<|Oh h<|Jl4 tv R) (λI h=>Jn 2 R<|Ob h λ_ u h=>Jd3 R i u U126 Z149<|Je3 R U149 R Z30 ?_)
 obtain⟨_,H,E⟩:=(i).gSt u
 obtain⟨P,X,rfl,S⟩:=Place.un H
 exact Jc3 R I30 (λa k=>E a k 1 _ R)<|Jn 1 R<|Ob h λ_ L h=>Jw3 R call213 (rY (J:=Mk f) Gct Gct L)<|Kb λ_ _ _=>Tv<|Jn 1 R<|Oh h<|Jv1 _ tv ⟨R,_,Fct⟩<|KM R
 rintro _ _ _ ⟨rfl,n,_⟩
 refine have h:=C;Jd ?_
 exact Bk h (λK h=>Jy R<|Js<|Jz<|Jp<|Jg3 R<|wr2 s e j.len_le ▸ (Ou h b (λb=>Ja2 ⟨n,c+1,R,Fct,nxz s,nxm e,b⟩ R))) (λK h=>Jx R<|Jf3 R<|Ju<|Ja1<|Jw<|Jw<|Ou h b (λb=>Ov b q (λh=>Ja1<|Jr2<|Jw<|Jb2 (l:=[.tmp 6]) results154 (Jq2 R R) R<|Oh h<|⟨n,R,Fct⟩)))
 rintro _ _ ⟨A,rfl,_,rfl⟩
 exact have h:=yI q;Jp (Jf3 R<|Ju<|Jb2 (l:=[.tmp 6]) results154 (Jq2 R R) R<|Oh h<|⟨A,R,Fct⟩)
theorem wQ {z L}{p0:VP}{A M}{p1:VI}{p2:Int}(B:Rd Pair.rp J w 0 z L p0) (q:Rd Ri J w 0 A M p1){r:Int}(h:kP p0 p1 p2=some r):Ret prog 156 [.slice z p0.length L,.slice A p1.length M,vi p2] w (Pvi J w r):=by
 refine Jp3 J func156 R ntmps156 R λav=>Jf3 R<|Jf3 R<|Jf3 R<|Jq<|Jf3 R<|Ob h λH X Q=>Jx1 (λb a=>∃c,∃j:Int×Int,b=[(7,vi j.1),(8,vi j.2)]/\Stp [] J w c a/\H=FX j) (Jv<|Ju3 [0,1,2] (λg f b a=>∃c e,∃d:Int×Int,b=(7,vi d.1)::(8,vi d.2)::(9,vi e)::f/\Stp [] J w c a/\0<=e/\FV ((p1.length:Int)-e)=g/\cntM (gY p0 p1 p2) g e d=some H) ⟨_,_,⟨J,0,(((-1):Int),((-1):Int)),R,Jo3,(by decide),(by simp),X⟩,(KM R)⟩ ?_) ?_
 rintro g _ _ ⟨u,e,d,rfl,y,C,i,h⟩
 rcases g with _|g
 exact Jq<|Jl3 2 R<|Js3 R U30 R R<|Jb 1 R<|Jx2 R (dcf i)<|Jc1<|Jt<|Jt<|Jb1<|Oh h<|Jw1 _ ⟨u,(d.1,d.2),R,Fct,R⟩<|KM R
 refine Ob h λaw h s=>Jq<|Jl3 2 R<|Js3 R U30 R R<|Jb 1 R<|Jw2 R (dct i)<|Js<|Jp<|Jq<|Jv<|Jq<|Jl3 3 R<|Ob h λ_ D h=>Jd3 R q D U30 Z2 (have o:=q.stp y;Jc3 R I2 (o.gInt D) (Ob h λ_ E h=>Jd3 R B E U58 Z120<|Je3 R U120 R Z30 ?_))
 have p:=B.stp y
 obtain⟨_,Y,V⟩:=(p).gSt E
 obtain⟨al,ax,am,ay,rfl,ap,aq⟩:=Pair.un Y
 refine Jc3 R I30 (λa t=>V a t 0 _ R)<|Jn 1 R<|Ob h λaB af h=>Jw3 R call212 (oH (J:=Mk u) Gct af)<|Kb λai k v=>Tv<|Jd<|Ob h λI h S=>Jt3 [0,1,2,8,9] (λf b a=>∃c,b=(7,vi I)::f/\Stp [] k ai c a) ?_ ?_
 exact Bk h (λaa h=>Jy R<|Js<|Oh h<|Jw1 _ ⟨k,R,Jo3⟩<|KM R) (λaa h=>Jx R<|Jg3 R<|Oh h<|Jw1 _ ⟨k,R,Jo3⟩<|KM R)
 rintro _ _ ⟨N,rfl,x⟩
 refine Jp<|Jl3 3 R<|Ob S λ_ F h=>Jd3 R o F U30 Z2<|Jc3 R I2 ((o.stp<|v.tr x).gInt F)<|Ob h λ_ G h=>Jd3 R p G U58 Z120<|Je3 R U120 R Z30 ?_
 obtain⟨_,Z,W⟩:=((p.stp (v.tr x))).gSt G
 obtain⟨an,az,ao,aA,rfl,ar,au⟩:=Pair.un Z
 refine Jc3 R I30 (λa t=>W a t 1 _ R)<|Jn 1 R<|Ob h λaC ag h=>Jw3 R call212 (oH (J:=Mk N) Gct ag)<|Kb λaj m _=>Tv<|Jd<|Ob h λK h T=>Jt3 [0,1,2,7,9] (λf b a=>∃c,b=(8,vi K)::f/\Stp [] m aj c a) ?_ ?_
 exact Bk h (λab h=>Jy R<|Js<|Oh h<|Jw1 _ ⟨m,R,Jo3⟩<|KM R) (λab h=>Jx R<|Jg3 R<|Oh h<|Jw1 _ ⟨m,R,Jo3⟩<|KM R)
 rintro _ _ ⟨O,rfl,_⟩
 exact have h:=T;Jz (Jp<|Jg3 R<|wr2 C i q.len_le ▸ (Ou h s (λs=>Ja2 ⟨O,e+1,(I,K),R,Fct,nxz C,nxm i,s⟩ R)))
 rintro _ ak ⟨P,j,rfl,_,rfl⟩
 refine have h:=yI Q;Jp (Jq<|Jv<|Jl3 3 R<|Ob h λah h U=>Jk4 [7,8] 44 ah P ak 3 tv ?_ ?_)
 exact Bk h (λac h=>Jn 3 R<|Oh h<|Jl4 tv R) (λac h=>Jn 3 R<|Oh h<|Jl4 tv R)
 rintro _ _ _ ⟨rfl,n,_⟩
 refine have h:=U;Jb 1 R ?_
 refine Bk h (λad h=>Jy R<|Jf3 R ?_) (λad h=>Jx R<|Jf3 R<|Ju<|Ja1<|Jw<|Jb2 (l:=[.tmp 6]) results156 (Jq2 R R) R<|Oh h<|⟨n,R,Fct⟩)
 exact Bk h (λae h=>Jy R<|Js<|Jz<|Jp<|Jf3 R<|Ju<|Jb2 (l:=[.tmp 6]) results156 (Jq2 R R) R<|Oh h<|⟨n,R,Fct⟩) (λae h=>Jx R<|Jf3 R<|Ju<|Ja1<|Jw<|Jb2 (l:=[.tmp 6]) results156 (Jq2 R R) R<|Oh h<|⟨n,R,Fct⟩)
theorem zw {b f e c a d}{p0:Parity}(q:Rd Ri J w 0 b f p0.Arena.Owner) (s:Rd Rs J w 0 e c p0.Arena.Next) (t:Rd Ri J w 0 a d p0.Prio){r:VI}(h:qX p0=some r):Ret prog 94 [.agg #[.slice b p0.Arena.Owner.length f,.slice e p0.Arena.Next.length c,.slice a p0.Prio.length d]] w (Pvs E6 2 J w r):=by
 exact Jp3 J func94 R ntmps94 R λu=>Jj3<|Jx3 J 2 R λ_ _ g _ n=>Tv<|Jb 1 R<|Jj3<|Je3 R U55 R Z30<|Jc3 R I30 (n.ld 2 R R)<|Js3 R U30 R R<|Ob h λ_ p h=>Jw3 R call162 (zp (J:=Mk g) p)<|Ks 5 (bW _) λj k _ i _ o=>Tv<|Jb 1 R<|Ju<|Jb2 (l:=[.tmp 2]) results94 (Jq2 R R) R<|Oh h<|⟨(λm=>ren [(5,2)]<|i m),j,k,R,Fct,(o.map (ren [(5,2)]) R R)⟩
end
end Go.Proofs.YtldlmopdhmaceaaGreatDoor
