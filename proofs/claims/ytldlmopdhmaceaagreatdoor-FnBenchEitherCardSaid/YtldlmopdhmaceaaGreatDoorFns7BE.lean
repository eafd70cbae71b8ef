/- The walks, part 7. By program. -/
import Derived.Test.YtldlmopdhmaceaaGreatDoorFns4BE
import Derived.Test.YtldlmopdhmaceaaGreatDoorFns5BE
import Derived.Test.YtldlmopdhmaceaaGreatDoorFns6BE
set_option linter.unusedVariables false
set_option linter.unusedSimpArgs false
open Go.Wk.Ep renaming bool → FT
open Int renaming toNat → FV
open Go.IntKind renaming wrap → FW
open Sum renaming inr → FX
namespace Go.Proofs.YtldlmopdhmaceaaGreatDoor
open Tryz
open Go Go.Wk Go.Proofs
set_option maxRecDepth 100000
set_option maxHeartbeats 1000000
section
variable {w:World}{J:Col}
theorem tS {i j}{p0:dice}{p1:Int}{k}(ag:Rd (Rp.int .u8) J w 0 i j p0.b) (av:Bc J w 2 k 41 [.slice i p0.b.length j,vi p0.i,.int .u64 p0.h]){r:VC×Int×Int}(h:lT p0 p1=some r):Ret prog 6 [.pointer (some ⟨k,0,none⟩),vi p1] w (λap b=>∃d G H,ap= .slice G r.1.length H/\Ent J w d b/\Oc Clause.ep32 32 d b 3 G H r.1/\Bc d b 2 k 41 [.slice i p0.b.length j,vi r.2.1,.int .u64 r.2.2]):=by
 refine Jp3 J func6 R ntmps6 R λaw=>Jf3 R<|Jj3<|Jc4 J Clause.ep32 3 R Y27 kQ R λU ao _ K P _=>Tv<|Jb 1 R<|Jq<|Jl3 3 R<|Ob h λC ak h=>Jw3 R call12 (kh (J:=λe=>mp [(2,2)] 0<|K e) (p0:=p0) (Jm2 (ag.stp P) (mp [(2,2)] 0) R R) Fct ak) ?_
 rintro _ I ⟨_,rfl,Y,Z⟩
 refine Im Y 4 R (λu _ an=>Tv<|Jb 1 R<|Ob h λF ai ah=>Jt3 [0] (λt v b=>∃d,∃f:VC×Int×Int×Int,∃o m,v=(5,.slice o f.1.length m)::t/\Stp [3,6,9,10,11,12] u I d b/\Oc Clause.ep32 32 d b 3 o m f.1/\Bc d b 6 k 41 [.slice i p0.b.length j,vi f.2.2.1,.int .u64 f.2.2.2]/\F=FX f) (Jv<|Ju3 [0] (λq t v b=>∃d,∃a:VC×Int×Int×Int,∃n p,v=(5,.slice n a.1.length p)::(6,vi a.2.1)::t/\Stp [3,6,9,10,11,12] u I d b/\Oc Clause.ep32 32 d b 3 n p a.1/\Bc d b 6 k 41 [.slice i p0.b.length j,vi a.2.2.1,.int .u64 a.2.2.2]/\ci (jb p0) q a=some F) ⟨_,_,⟨u,(([]:VC),C.1,C.2.1,C.2.2),U,ao,R,Jo3,Fct,(Z.mx an R (R:4+2=6)),ai⟩,(KM R)⟩ ?_) ?_)
 rintro q _ _ ⟨D,a,n,p,rfl,O,aa,ab,h⟩
 rcases q with _|q
 cases h
 refine Ob h λ_ h E=>Jq<|Jf3 R ?_
 refine Bk h (λaj h=>Jy R<|Jc1<|Jt<|Jt ?_) (λaj h=>Jx R<|Js<|Jp<|Jq<|Jv<|Jm3 2 R<|Ob h λc al h=>Jw3 R call13 (uR (J:=λe=>mp [(6,2)] 0<|D e) (p0:=(⟨p0.b,a.2.2.1,a.2.2.2⟩:dice)) (Jm2 Fct (mp [(6,2)] 0) R R) Fct al) ?_)
 cases h
 exact have h:=E;Jb1 (Oh h<|Jw1 _ ⟨D,(a.1,a.2.1,a.2.2.1,a.2.2.2),n,p,R,Fct,aa,ab,R⟩<|KM R)
 rintro _ s ⟨_,y,A,z,x,rfl,X,ac,ad,ae⟩
 refine Im X 7 R (λg Q B=>Tv<|Jb4 g Clause.ep32 12 [10,11] (parts:=[(0,.tmp 18)]) (cells:=[vi c.1.Kind,.slice y c.1.A.length A,.slice z c.1.B.length x]) (xs:=([c.1]:VC)) R Y27 kQ R (Jj4 ⟨[vi c.1.Kind],[.slice y c.1.A.length A,.slice z c.1.B.length x],Zl g s [],Zl g s [10,11],R,Zl.sp (l1:=[]) (l2:=[10,11]) R,Zl.sr (l1:=[]) (l2:=[10,11]),R,⟨[.slice y c.1.A.length A],[.slice z c.1.B.length x],Zl g s [10],Zl g s [11],R,Zl.sp (l1:=[10]) (l2:=[11]) R,Zl.sr (l1:=[10]) (l2:=[11]),⟨_,_,R,(ac.mx (bW _) B R (R:7+3=10))⟩,⟨_,_,R,(ad.mx (bW _) B R (R:7+4=11))⟩⟩⟩) λau ar _ M S af=>Tv<|Ob h λaq am h=>Jd4 M Clause.ep32 3 [12] R Y27 kQ R Fct af.src (c9 R) am R λV W _ N T _=>Tv<|Jc 1 R<|Jz<|Jp<|Jg3 R ?_)
 cases h
 exact Ja2 ⟨(λe=>ren [(9,6)]<|N e),(aq,((FW .i64<|a.2.1-1):Int),c.2.1,c.2.2),V,W,R,(Jz2 ((T4 O Q S T).wk R) [(9,6)] R),Fct,(((ae.mx B R (R:7+2=9)).stp Fct).map (ren [(9,6)]) R R),E⟩ R
 rintro _ _ ⟨L,f,o,m,rfl,_,_,_,rfl⟩
 exact have h:=yI ah;Jp (Jf3 R<|Ju<|Jb2 (l:=[.tmp 4]) results6 (Jq2 R R) R<|Oh h<|⟨(λe=>ren [(6,2)]<|L e),o,m,R,Fct,Fct,Fct⟩)
theorem mv {p0:Sig}{k j m n}{p1:Clause}(af:Rd Ri J w 0 k j p1.A) (ag:Rd Ri J w 0 m n p1.B){r:Bool}(h:jy p0 p1=some r):Ret prog 14 [.agg #[vi p0.In,vi p0.Out],.agg #[vi p1.Kind,.slice k p1.A.length j,.slice m p1.B.length n]] w (Pvb J w r):=by
 refine Jp3 J func14 R ntmps14 R λah=>Jj3<|Jx3 J 2 R λ_ _ s _ D=>Tv<|Jx3 s 3 R λ_ _ u B p=>Tv<|Jb 1 R<|Jq<|Jj3 (have q:=D.stp B;Jg4 tv R (Jh4 (haE q.cells) I39 Z39 R) (Ob h λak U h=>Jw3 R call24 (lr (J:=Mk u) (p0:=p0) U)<|Kb λaa c a=>Tv<|Jn 2 R<|Ob h λV h E=>Jk4 [2,3] 14 V c aa 5 tv ?_ ?_))
 exact Bk h (λI h=>Je3 R U32 R Z2<|Jc3 R I2 ((p.stp a).ld 0 R R)<|Ob h λ_ O h=>Jw3 R C25 (dJ (J:=Mk c) O)<|Kb λ_ _ _=>Tv<|Jn 2 R<|Oh h<|Jv1 _ tv ⟨R,_,Fct⟩<|KM R) (λI h=>Jn 1 R<|Je4 R<|Je4 R<|Jn 2 R<|Oh h<|Jl4 tv R)
 rintro _ _ _ ⟨rfl,d,g⟩
 refine have h:=E;Jd ?_
 refine Bk h (λK h=>Jy R<|Js<|Jp<|Jj3<|Jg4 tv R (Jh4 (haE (q.stp<|a.tr g).cells) I39 Z39 R)<|Ob h λ_ P h=>Jw3 R call26 (gv (J:=Mk d) (p0:=p0) P)<|Ki λ_ t z=>Tv<|Jb 1 R<|Jj3<|Je3 R U32 R Z30 (have b:=p.stp (T3 a g z);Jc3 R I30 (b.ld 1 R R) (Jn 1 R<|Ob h λai Q h=>Jw3 R call27 (nK (J:=Mk t) Gct Q)<|Kb λab e i=>Tv<|Jn 1 R<|Ob h λW h F=>Jk4 [3] 26 W e ab 5 tv ?_ ?_))) (λK h=>Jx R<|Jf3 R<|Ju<|Jw<|Jb2 (l:=[.tmp 4]) results14 (Jq2 R R) R<|Oh h<|⟨d,R,Fct⟩)
 exact Bk h (λL h=>Jn 1 R<|Je4 R<|Jn 1 R<|Je4 R<|Jn 1 R<|Oh h<|Jl4 tv R) (λL h=>Je3 R U32 R Z30<|Jc3 R I30 ((b.stp i).ld 2 R R)<|Jn 1 R<|Ob h λ_ S h=>Jw3 R call27 (nK (J:=Mk e) Gct S)<|Kb λ_ _ _=>Tv<|Jn 1 R<|Oh h<|Jv1 _ tv ⟨R,_,Fct⟩<|KM R)
 rintro _ ac _ ⟨rfl,f,A⟩
 refine Jn 1 R<|Ob F λY h G=>Ju1 [(11,2),(12,1),(13,1),(14,2),(15,2),(16,1),(17,2),(18,2),(19,2),(20,2)] [(21,2)] (λy Z=>y=[(37,.bool Y)]/\∃ae,Stp [] f ac ae Z) tv ?_ ?_
 refine Bk h (λM h=>Jn 1 R<|Je4 R<|Je4 R<|Jn 2 R<|Je4 R<|Jn 4 R<|Oh h<|Jl4 tv R) (λM h=>Je3 R U32 R Z2 (have o:=b.stp (i.tr A);Jc3 R I2 (o.ld 0 R R) (Ob h λaj T h=>Jw3 R call17 (qW (J:=Mk f) T)<|Kb λad v C=>Tv<|Jn 1 R<|Ob h λX h H=>Jk4 [27] 36 X v ad 5 tv ?_ ?_)))
 exact Bk h (λN h=>Je3 R U32 R Z30<|Jc3 R I30 ((o.stp C).ld 2 R R)<|Js3 R U30 R R<|Jn 2 R<|Oh h<|Jl4 tv R) (λN h=>Jn 1 R<|Je4 R<|Jn 3 R<|Oh h<|Jl4 tv R)
 rintro _ _ _ ⟨rfl,_,_⟩
 exact have h:=H;Jn 1 R (Oh h<|Jv1 _ tv ⟨R,_,Fct⟩<|KM R)
 rintro _ _ _ ⟨rfl,x,_⟩
 exact have h:=G;Jb 1 R (Ju<|Jb2 (l:=[.tmp 4]) results14 (Jq2 R R) R<|Oh h<|⟨x,R,Fct⟩)
theorem qu {ak ao ab ae aa ad ac af} {p0 : bench} {p1 : ByteArray} {b0} (g0_1 : Oc Clause.ep32 32 J w 2 ak ao p0.clauses) (g0_2_0_0 : Rd Ri J w 0 ab ae p0.game.Arena.Owner) (g0_2_0_1 : Rd Rs J w 0 aa ad p0.game.Arena.Next) (g0_2_1 : Rd Ri J w 0 ac af p0.game.Prio) (gb0 : Bc J w 3 b0 57 [vi p0.sig.In, vi p0.sig.Out, .slice ak p0.clauses.length ao, .slice ab p0.game.Arena.Owner.length ae, .slice aa p0.game.Arena.Next.length ad, .slice ac p0.game.Prio.length af]) (gGE1 : Rd Rp.str J w 0 (some ⟨1, 0, none⟩) 7 lV) (gGM : Vm 2 J w) (gGT : Tb prog "internal/strconv.uint64pow10" .u64 Lib.pow10Tab J w) {r : ByteArray × VC} (h : iN p0 p1 = some r) : Ret prog 33 [.pointer (some ⟨b0, 0, none⟩), .string p1] w (fun v w' => ∃ κ' ma0 mu0, v = .string r.1 ∧ Ent J w κ' w' ∧ Oc Clause.ep32 32 κ' w' 2 ma0 mu0 r.2 ∧ Bc κ' w' 3 b0 57 [vi p0.sig.In, vi p0.sig.Out, .slice ma0 r.2.length mu0, .slice ab p0.game.Arena.Owner.length ae, .slice aa p0.game.Arena.Next.length ad, .slice ac p0.game.Prio.length af]) := by
 refine Jp3 J func33 R ntmps33 R λhE=>Jf3 R<|Jl3 1 R<|Ob h λx9 hx9 h=>Jw3 R call54 (sD (J:=Mk J) Fct (gGM.map (mp [] 0) R R) hx9) ?_
 rintro _ _ ⟨_,ah,an,al,am,rfl,e3,f4,f5⟩
 refine Im e3 4 R (λK6 S7 m8=>Tv<|have f10:=f4.mx (bW _) m8 R (R:4+2=6);have f11:=f5.mx (bW _) m8 R (R:4+3=7);Jn 3 R (Jy3 K6 8 R X32 R λ_ _ K13 S14 f15=>Tv<|Jm4 K13 8 R Z32 R f15 R λ_ S17 f18=>Tv<|Jb 1 R<|Jq<|Jq<|Xn K13 [3,8] [2,5,8,11,14,17,18,21,25,29,32,35,38,41,44,46,50,53,56] λw20 S19=>Jn 3 R<|Ob h λp22 h hK21=>Jk4 [0,5] 22 p22 K13 w20 8 (Cl.refl _ _ _) ?_ ?_))
 exact Bk h (λht22 h=>Jn 1 R<|Jf R (bX R R)<|Je3 R U57 R Z39<|Jg R (Jh4 (haC ((gb0.stp<|T4 S7 S14 S17 S19).lds 0 2 R) R) I39 Z39 R)<|Jg R (Jh4 (haC (f18.stp S19).cells R) I32 Z32 R)<|Ob h λ_ hx20 h=>Jw3 R call55 (mq (J:=Mk K13) (p0:=p0.sig) (p1:=x9.1) Gct Gct hx20)<|Kb λ_ _ S31=>⟨(S31.cl R),Jn 2 R<|Oh h<|Jv1 _ (S31.cl R) ⟨R,_,Fct⟩<|KM R⟩) (λht22 h=>Jn 3 R<|Jf4 R<|Jf4 R<|Je4 R<|Jn 2 R<|Oh h<|Jv1 _ (Cl.refl _ _ _) ⟨R,_,Jo3⟩<|KM R)
 rintro _ w34 _ ⟨rfl,K35,S36⟩
 refine Jn 1 R<|Ob hK21 λp30 h hK37=>Jk4 [0,5] 30 p30 K35 w34 7 (S36.cl R) ?_ ?_
 exact Bk h (λht38 h=>Jn 1 R<|Jf R (bX R R)<|Je3 R U57 R Z27<|Jg4 (S36.cl R) R (Jd2 I27 R R<|hvE ((gb0.stp<|T5 S7 S14 S17 S19 S36).ld 2 R R))<|Js3 R U27 R R<|Jn 2 R<|Oh h<|Jv1 _ (S36.cl R) ⟨R,_,Jo3⟩<|KM R) (λht38 h=>Jn 3 R<|Je4 R<|Jn 3 R<|Oh h<|Jv1 _ (S36.cl R) ⟨R,_,Jo3⟩<|KM R)
 rintro _ _ _ ⟨rfl,K41,S42⟩
 refine have h:=hK37;Jt1 (Jd ?_)
 refine Bk h (λht43 h=>Jy R<|Js<|Jp<|Jq<|Xr K41 [3,8] (some 10) [2,5,8,11,12,15,19,22,26,29] [31] λw48 S47=>Jn 2 R<|Jf R (bX R R)<|Je3 R U57 R Z27 (have f49:=gb0.stp (T7 S7 S14 S17 S19 S36 S42 S47);have S001:=(T7 S7 S14 S17 S19 S36 S42 S47);have S002:=(T6 S14 S17 S19 S36 S42 S47);Jg R (Jd2 I27 R R<|hvC (f49.ld 2 R R) R) (Jg R (Jh4 (haC (f18.stp<|T4 S19 S36 S42 S47).cells R) I32 Z32 R)<|Jb4 K41 Clause.ep32 9 [6,7] (parts:=[(0,.tmp 36)]) (cells:=[vi x9.1.Kind,.slice ah x9.1.A.length an,.slice al x9.1.B.length am]) (xs:=([x9.1]:VC)) R Y27 kQ R (Jj4 ⟨[vi x9.1.Kind],[.slice ah x9.1.A.length an,.slice al x9.1.B.length am],Zl K41 w48 [],Zl K41 w48 [6,7],R,Zl.sp (l1:=[]) (l2:=[6,7]) R,Zl.sr (l1:=[]) (l2:=[6,7]),R,⟨[.slice ah x9.1.A.length an],[.slice al x9.1.B.length am],Zl K41 w48 [6],Zl K41 w48 [7],R,Zl.sp (l1:=[6]) (l2:=[7]) R,Zl.sr (l1:=[6]) (l2:=[7]),⟨_,_,R,(f10.stp S002)⟩,⟨_,_,R,(f11.stp S002)⟩⟩⟩) λap aq _ K54 S55 f56=>⟨(S55.cl R),Ob h λx38 hx38 h=>Jd4 K54 Clause.ep32 2 [9] R Y27 kQ R Fct f56.src (c9 R) hx38 R λaj ai _ K59 S60 _=>⟨((S55.tr S60).cl R),Jf R (bX R R)<|Je3 R U57 R Z27<|Jt1<|Jz3 K59 3 (off:=2) (vc:=[.slice aj x38.length ai]) (cs':=[vi p0.sig.In,vi p0.sig.Out,.slice aj x38.length ai,.slice ab p0.game.Arena.Owner.length ae,.slice aa p0.game.Arena.Next.length ad,.slice ac p0.game.Prio.length af]) R Z27 R Fct R λ_ S64 f65=>Tv<|Jd<|Jl3 1 R<|Jf R (bX R R)<|Je3 R U57 R Z27<|Jc3 R I27 (f65.ld 2 R R)<|Js3 R U27 R R<|Ob h λ_ hx46 h=>Jw3 R call56 (gL (J:=Mk K59) ((gGT.stp<|T4 S001 S55 S60 S64).map (mp [] 0) R R) hx46) ?_⟩⟩))) (λht43 h=>Jx R<|Jf3 R<|Ju<|Jw<|Jb2 (l:=[.tmp 4]) results33 (Jq2 R R) R<|Oh h<|⟨K41,ak,ao,R,Fct,Fct,Fct⟩)
 rintro _ _ ⟨_,rfl,e69⟩
 exact Im e69 10 R (λK70 _ _=>Tv<|Jb 1 R<|Ju<|Jb2 (l:=[.tmp 4]) results33 (Jq2 R R) R<|Oh h<|⟨K70,aj,ai,R,Fct,Fct,Fct⟩)
theorem dQ {n u}{p0:VC}{c1_0:Sig}{o}(g:Rd Clause.rp J w 0 n u p0) (K:Bc J w 0 o 39 [vi c1_0.In,vi c1_0.Out]){r:Int}(h:cw p0 c1_0=some r):Ret prog 225 [.slice n p0.length u,.func (.func 171) #[] #[.pointer (some ⟨o,0,none⟩)]] w (Pvi J w r):=by
 refine Jp3 J func225 R ntmps225 R λL=>Jf3 R<|Jq<|Jl3 1 R<|Js3 R U27 R R<|Jb 1 R<|Ob h λt A p=>Jt3 [1] (λe f i=>∃j,f=e/\Stp [] J w j i/\t=FX ()) (Jv<|Ju3 [0,1,7] (λc e f i=>∃j b,f=(8,vi b)::e/\Stp [] J w j i/\0<=b/\FV ((p0.length:Int)-b)=c/\cntM (cq p0 c1_0) c b ()=some t) ⟨_,_,⟨J,0,R,Jo3,(by decide),(by simp),A⟩,(KM R)⟩ ?_) ?_
 rintro c _ _ ⟨m,b,rfl,x,q,d,h⟩
 rcases c with _|c
 exact Jf3 R<|Jq<|Jx2 R (dcf d)<|Jc1<|Jt<|Jt<|Jb1<|Oh h<|Jw1 _ ⟨m,R,Fct,R⟩<|KM R
 refine Ob h λM h a=>Jf3 R<|Jq<|Jw2 R (dct d)<|Js<|Jp<|Jq<|Jv<|Jf3 R<|Jl3 3 R<|Ob h λE s h=>Jd3 R g s U27 Z32 ?_
 obtain⟨_,B,z⟩:=((g.stp x)).gSt s
 obtain⟨F,N,G,O,rfl,H,I⟩:=Clause.un B
 refine Jg4 tv R (Jh4 (haE z) I32 Z32 R)<|Ob h λP D h=>WO.callV R R R R R R R R call171 (qr (J:=Mk m) (p0:=E) (c0:=c1_0) Gct Gct Fct D) ?_
 rintro _ _ ⟨_,rfl,y⟩
 refine Im y 2 R (λk _ _=>Tv<|Jd ?_)
 exact Bk h (λC h=>Jy R<|Js<|Jz<|Jp<|Jg3 R<|wr2 q d g.len_le ▸ (Ou h a (λa=>Ja2 ⟨k,b+1,R,Fct,nxz q,nxm d,a⟩ R))) (λC h=>Jx R<|Jf3 R<|Ju<|Ja1<|Jw<|Jw<|Ou h a (λa=>Ov a p (λh=>Ja1<|Jr2<|Jw<|Jb2 (l:=[.tmp 4]) results225 (Jq2 R R) R<|Oh h<|⟨k,R,Fct⟩)))
 rintro _ _ ⟨v,rfl,_,rfl⟩
 exact have h:=yI p;Jp (Jf3 R<|Ju<|Jb2 (l:=[.tmp 4]) results225 (Jq2 R R) R<|Oh h<|⟨v,R,Fct⟩)
theorem kb {a b}{p0:VI}{p1:Int}(f:Rd Ri J w 0 a b p0){r:Bool}(h:gK p0 p1=some r):Ret prog 133 [.slice a p0.length b,vi p1] w (Pvb J w r):=by
 exact Jp3 J func133 R ntmps133 R λg=>Jj3<|Jx3 J 2 R λ_ _ c _ _=>Tv<|Jb 1 R<|Jl3 1 R<|Jf R (d5 (first:=[]) (captured:=[.tmp 3]) R R R ⟨_,R⟩)<|Ob h λ_ e h=>Jw3 R call138 (eB (J:=Mk c) Gct Fct e)<|Kb λ_ d _=>Tv<|Jb 2 R<|Ju<|Jb2 (l:=[.tmp 4]) results133 (Jq2 R R) R<|Oh h<|⟨d,R,Fct⟩
theorem sK {b c}{p0:Place}{a f}{c0:VP}{d}(s:Rd Ri J w 0 b c p0.Record) (t:Rd Pair.rp J w 0 a f c0) (p:Bc J w 0 d 58 [.slice a c0.length f]){r:VI}(h:kz p0 c0=some r):Ret prog 180 [.agg #[vi p0.At,.slice b p0.Record.length c],.pointer (some ⟨d,0,none⟩)] w (Pvs E6 2 J w r):=by
 exact Jp3 J func180 R ntmps180 R λu=>Jj3<|Jx3 J 2 R λ_ _ i j e=>Tv<|Jb 1 R<|Jj3<|Jc3 R I58 ((p.stp j).ld 0 R R)<|Je3 R U149 R Z30<|Jc3 R I30 (e.ld 1 R R)<|Je3 R U149 R Z2<|Jc3 R I2 (e.ld 0 R R)<|Ob h λ_ q h=>Jw3 R call181 (sI (J:=Mk i) Gct Gct q)<|Ks 5 (bW _) λk m _ g _ o=>Tv<|Jb 1 R<|Ju<|Jb2 (l:=[.tmp 3]) results180 (Jq2 R R) R<|Oh h<|⟨(λn=>ren [(5,2)]<|g n),k,m,R,Fct,(o.map (ren [(5,2)]) R R)⟩
theorem wh {a c}{p0:VL}{p1:Int}{b d}{p2:VI}(j:Rd Place.rp J w 0 a c p0) (k:Rd Ri J w 0 b d p2){r:Int}(h:pd p0 p1 p2=some r):Ret prog 228 [.slice a p0.length c,vi p1,.slice b p2.length d] w (Pvi J w r):=by
 exact Jp3 J func228 R ntmps228 R λm=>Jj3<|Jx3 J 2 R λ_ _ f _ _=>Tv<|Jx3 f 3 R λ_ _ g _ _=>Tv<|Jb 1 R<|Jl3 1 R<|Jf R (d5 (first:=[]) (captured:=[.tmp 4,.tmp 5]) R R R ⟨_,R⟩)<|Ob h λ_ i h=>Jw3 R call262 (em (J:=Mk g) Gct Gct Fct Fct i)<|Ki λ_ e _=>Tv<|Jb 1 R<|Ju<|Jb2 (l:=[.tmp 6]) results228 (Jq2 R R) R<|Oh h<|⟨e,R,Fct⟩
theorem sL {b c}{p0:Place}{a f}{c0:VP}{d}(n:Rd Ri J w 0 b c p0.Record) (o:Rd Pair.rp J w 0 a f c0) (k:Bc J w 0 d 58 [.slice a c0.length f]){r:Int}(h:kA p0 c0=some r):Ret prog 182 [.agg #[vi p0.At,.slice b p0.Record.length c],.pointer (some ⟨d,0,none⟩)] w (Pvi J w r):=by
 exact Jp3 J func182 R ntmps182 R λp=>Jj3<|Jx3 J 2 R λ_ _ i j e=>Tv<|Jb 1 R<|Jj3<|Jc3 R I58 ((k.stp j).ld 0 R R)<|Je3 R U149 R Z30<|Jc3 R I30 (e.ld 1 R R)<|Je3 R U149 R Z2<|Jc3 R I2 (e.ld 0 R R)<|Ob h λ_ m h=>Jw3 R call183 (sJ (J:=Mk i) Gct Gct m)<|Ki λ_ g _=>Tv<|Jb 1 R<|Ju<|Jb2 (l:=[.tmp 3]) results182 (Jq2 R R) R<|Oh h<|⟨g,R,Fct⟩
theorem tP {f i g d c e}{p0:Parity}{s y}{p1:VI}(aO:Rd Ri J w 0 f i p0.Arena.Owner) (aP:Rd Rs J w 0 g d p0.Arena.Next) (aQ:Rd Ri J w 0 c e p0.Prio) (aR:Rd Ri J w 0 s y p1){r:VI×VI}(h:qC p0 p1=some r):Ret prog 143 [.agg #[.slice f p0.Arena.Owner.length i,.slice g p0.Arena.Next.length d,.slice c p0.Prio.length e],.slice s p1.length y] w (λaA k=>∃n t v u x,aA= .tuple #[.slice t r.1.length v,.slice u r.2.length x]/\Ent J w n k/\Oc E6 2 n k 2 t v r.1/\Oc E6 2 n k 3 u x r.2):=by
 refine Jp3 J func143 R ntmps143 R λaS=>Jj3<|Jx3 J 2 R λ_ _ o _ ai=>Tv<|Jb 2 R<|Jq<|Xn o [2] [5,0,6,10,14,16,20] λ_ Q=>Je3 R U55 R Z53 (have j:=ai.stp Q;Jg R (Jh4 (haC j.cells R) I55 Z55 R) (Jg R (Jh4 (haC (j.lds 0 2 R) R) I53 Z53 R)<|Ob h λz ap h=>Jw3 R call203 (wi (J:=Mk o) (p0:=p0.Arena) Gct Gct ap)<|Ks 5 (cF (bW _) _) λX T _ D b ag=>⟨(b.cl R),Jf R (Jn4 [.slice f p0.Arena.Owner.length i,.slice g p0.Arena.Next.length d,.slice c p0.Prio.length e,.slice X z.length T] R)<|Jx3 D 6 R λ_ _ E q _=>⟨((b.tr q).cl R),Jn 1 R<|Jt1<|Jd<|Jj3<|Je3 R U55 R Z53<|Jg4 tv R (Jh4 (haE ((j.stp<|b.tr q).lds 0 2 R)) I53 Z53 R)<|Jn 1 R<|Ob h λ_ aq h=>Jw3 R call204 (xH (J:=Mk E) (p0:=p0.Arena) Gct Gct Gct aq)<|Ks 9 dB λaI aK m F _ ah=>Tv<|Jb 1 R<|Jl3 2 R ?_⟩⟩))
 obtain⟨G,O,aB⟩:=eD F m 5
 obtain⟨H,_,aC⟩:=eD G m 9
 obtain⟨I,P,aD⟩:=eD H m 6
 refine Ob h λaT ar h=>have aj:=(Sl.st aC (ah.stp O).rdc).stp P;Jw3 R call205 (sM _ (J:=λa=>mp [] 1<|I a) (p0:=(⟨p0,z⟩:solver)) (Jm2 Fct (mp [] 1) R R) (Jm2 Fct (mp [] 1) R R) (Jm2 Fct (mp [] 1) R R) (Jm2 ((Sl.st aB (ag.stp Fct).rdc).stp Fct) (mp [] 1) R R) (Jm2 aj (mp [] 1) R R) ((Bc.fzz aD Fct).map (mp [] 1) R R) ar) ?_
 rintro _ _ ⟨_,aF,aG,rfl,ac,ak⟩
 refine Im0 ac 10 R (λp _ _ aE=>Tv<|have aN:=ak.mx aE;Jb 5 R (Jq<|Jf3 R ?_))
 exact Bk h (λao h=>Jy R<|Js<|Jp<|Jl3 2 R<|Ob h λ_ ax h=>Jw3 R call207 (ja (J:=Mk p) Gct Gct ax)<|Ks 15 dB λaJ aH _ A _ ad=>Tv<|Ob h λ_ ay h=>Jw3 R call206 (iB (J:=Mk A) (Jn3 ad.rdc) ay)<|Ks 18 (bW _) λV ab _ B _ ae=>Tv<|Jn 1 R<|Ob h λ_ az h=>Jw3 R call206 (iB (J:=Mk B) Gct az)<|Ks 21 (bW _) λU aa _ C N af=>Tv<|Jb 2 R<|Ju<|Jb2 (l:=[.tmp 4,.tmp 5]) results143 (Jq2 R<|Jq2 R R) R<|Oh h<|⟨(λa=>ren [(18,2),(21,3)]<|C a),V,ab,U,aa,R,Fct,((ae.stp N).map (ren [(18,2),(21,3)]) R R),(af.map (ren [(18,2),(21,3)]) R R)⟩) (λao h=>Jx R<|Jl3 1 R<|Ob h λ_ au h=>Jw3 R call206 (iB (J:=Mk p) Gct au)<|Ks 15 (bW _) λY Z _ K _ al=>Tv<|Jn 2 R<|Ob h λ_ av h=>Jw3 R call207 (ja (J:=Mk K) Gct Gct av)<|Ks 18 dB λaL aM _ L _ am=>Tv<|Ob h λ_ aw h=>Jw3 R call206 (iB (J:=Mk L) (Jn3 am.rdc) aw)<|Ks 21 (bW _) λW S _ M _ an=>Tv<|Jb 2 R<|Ju<|Jw<|Jb2 (l:=[.tmp 4,.tmp 5]) results143 (Jq2 R<|Jq2 R R) R<|Oh h<|⟨(λa=>ren [(15,2),(21,3)]<|M a),Y,Z,W,S,R,Fct,((al.stp Fct).map (ren [(15,2),(21,3)]) R R),(an.map (ren [(15,2),(21,3)]) R R)⟩)
theorem xK {M N ar K I L}{p0:Parity}{H aa}{p1:VI}(aB:Rd Ri J w 0 M N p0.Arena.Owner) (aC:Rd Rs J w 0 ar K p0.Arena.Next) (aD:Rd Ri J w 0 I L p0.Prio) (aE:Rd Ri J w 0 H aa p1){r:Parity}(h:qA p0 p1=some r):Ret prog 230 [.agg #[.slice M p0.Arena.Owner.length N,.slice ar p0.Arena.Next.length K,.slice I p0.Prio.length L],.slice H p1.length aa] w (λaz a=>∃b U X V Y W Z,az= .agg #[.slice U r.Arena.Owner.length X,.slice V r.Arena.Next.length Y,.slice W r.Prio.length Z]/\Ent J w b a/\Oc E6 2 b a 2 U X r.Arena.Owner/\Oc (Ep.own E6 2) 30 b a 3 V Y r.Arena.Next/\Oc E6 2 b a 4 W Z r.Prio):=by
 refine Jp3 J func230 R ntmps230 R λaF=>Jj3<|Jx3 J 2 R λ_ _ ad _ av=>Tv<|Jy3 ad 3 R X55 R λal aA o aj _=>Tv<|Jd<|Jq<|Ob h λc Q h=>Ob h λz P h=>Jt3 [4] (λab ai a=>∃b u v s t y x,ai=ab/\Stp [3,4,6,7,8] o aA b a/\Oc E6 2 b a 4 u v c.Owner/\Oc (Ep.own E6 2) 30 b a 5 s t c.Next/\Oc E6 2 b a 6 y x z/\Bc b a 3 al 55 [.slice u c.Owner.length v,.slice s c.Next.length t,.slice y z.length x]) (WC.rxt (J:=o) [2] none (by kernel_rfl) λ_ A=>Jq1 (fuel:=5) [(0,2),(2,2),(5,2),(1,0),(6,0)] (by kernel_rfl) (by kernel_rfl) R<|Je3 R U55 R Z53<|Jn 1 R<|Je3 R U55 R Z30 (have O:=av.stp (aj.tr A);Jg R (Jh4 (haC (O.lds 0 2 R) R) I53 Z53 R) (Jg R (Jd2 I30 R R<|hvC (O.ld 2 R R) R)<|Jp1<|WA.fork2 (fuel:=4) 3 4 (by kernel_rfl) R (Jw3 R call264 (qw (J:=Mk o) (p0:=p0.Arena) Gct Gct Gct Q) ?_)<|Jc4 o E6 4 R Y30 bS R λak ay _ ag e _=>⟨(e.cl R),Xs 0 [10,22,26,28]<|Jw3 R call264 (qw (J:=Mk ag) (p0:=p0.Arena) Gct Gct Gct Q) ?_⟩))) ?_
 rintro _ _ ⟨_,f,k,j,m,rfl,am,ap,aq⟩
 exact Im am 4 R (λae d S=>⟨(d.cl R),Xs 0 [13,22,26,28]<|Jc4 ae E6 8 R Y30 bS R λak ay _ af p au=>⟨((d.tr p).cl R),Jd4 af E6 8 [] R Y30 bS R au (Sl.srcP (cd _) Fct) bU P R λg i _ D B _=>⟨((T3 d p B).cl R),Jf R (Jn4 [.slice f c.Owner.length k,.slice j c.Next.length m,.slice g z.length i] R)<|Jm4 D 3 R Z55 R Fct R λ_ F _=>⟨((T4 d p B F).cl R),Xe<|Jo<|Jw1 _ ⟨(λn=>ren [(6,4),(7,5),(8,6)]<|D n),f,k,j,m,g,i,R,(Jz2 ((T5 A d p B F).wk R) [(6,4),(7,5),(8,6)] R),(((ap.mx (bW _) S R (R:4+2=6)).stp Fct).map (ren [(6,4),(7,5),(8,6)]) R R),(((aq.mx (cF (bW _) _) S R (R:4+3=7)).stp Fct).map (ren [(6,4),(7,5),(8,6)]) R R),Fct,Fct⟩<|KM R⟩⟩⟩⟩)
 rintro _ _ ⟨_,f,k,j,m,rfl,an,aw,ax⟩
 exact Im an 5 R (λah q T=>⟨((e.tr q).cl R),Jd4 ah E6 4 [] R Y30 bS R Fct (Sl.srcP (cd _) Fct) bU P R λg i _ E C _=>⟨((T3 e q C).cl R),Jf R (Jn4 [.slice f c.Owner.length k,.slice j c.Next.length m,.slice g z.length i] R)<|Jm4 E 3 R Z55 R Fct R λ_ G _=>⟨((T4 e q C G).cl R),Xe<|Jo<|Jw1 _ ⟨(λn=>ren [(7,4),(8,5),(4,6)]<|E n),f,k,j,m,g,i,R,(Jz2 ((T5 A e q C G).wk R) [(7,4),(8,5),(4,6)] R),(((aw.mx (bW _) T R (R:5+2=7)).stp Fct).map (ren [(7,4),(8,5),(4,6)]) R R),(((ax.mx (cF (bW _) _) T R (R:5+3=8)).stp Fct).map (ren [(7,4),(8,5),(4,6)]) R R),Fct,Fct⟩<|KM R⟩⟩⟩)
 rintro _ _ ⟨ac,u,v,s,t,y,x,rfl,_,_,_,_,ao⟩
 exact Jp<|Ju<|Jb2 (l:=[.cell 4 55]) results230 (cc R ao I55 Z55 R R) R<|Oh h<|⟨(λn=>ren [(4,2),(5,3),(6,4)]<|ac n),u,v,s,t,y,x,R,Fct,Fct,Fct,Fct⟩
theorem pX {ad ac Y ar ab aa}{p0:watch}{X V W Z}{p1:Pair}{ae}(bk:Rd Rs J w 0 ad ac p0.next) (bl:Rd Rs J w 0 Y ar p0.letters) (bm:Rd Pair.rp J w 0 ab aa p0.pairs) (bn:Rd Ri J w 0 X V p1.Ask) (bo:Rd Ri J w 0 W Z p1.Give) (aT:Bc J w 0 ae 210 [.slice ad p0.next.length ac,.slice Y p0.letters.length ar,.slice ab p0.pairs.length aa]){r:VI}(h:ip p0 p1=some r):Ret prog 190 [.pointer (some ⟨ae,0,none⟩),.agg #[.slice X p1.Ask.length V,.slice W p1.Give.length Z]] w (Pvs E6 2 J w r):=by
 refine Jp3 J func190 R ntmps190 R λbp=>Jj3<|Jx3 J 2 R λ_ _ au aD aM=>Tv<|Jb 1 R<|Jj3<|Jc4 au E6 3 R Y30 bS R λaF aE _ M T _=>Tv<|Jb 1 R<|Jq<|Jq<|Xn M [0,2] [2,5,8,14,17,32,9,18,22,25,29] λ_ U=>Jn 1 R<|Jf R (bX R R)<|Je3 R U210 R Z51<|Jn 1 R<|Je3 R U120 R Z30<|Jn 1 R<|Jg R (Jd2 I51 R R<|hvC ((aT.stp<|T3 aD T U).ld 0 R R) R) (have af:=aM.stp (T.tr U);Jg R (Jd2 I30 R R<|hvC (af.ld 1 R R) R) (Ob h λ_ a2 h=>Jw3 R call234 (pW (J:=Mk M) (p0:=p0) Gct Gct Gct Gct Fct a2)<|Ks 6 dB λbi bf a9 av F aK=>⟨(F.cl R),?_⟩))
 obtain⟨aw,O,bc⟩:=eD av a9 6
 refine Ob h λap a3 h=>Jw3 R call233 (wg (J:=λo=>mp [] 1<|aw o) (Jm2 Fct (mp [] 1) R R) (Jm2 (Sl.st bc aK.rdc) (mp [] 1) R R) a3) ?_
 rintro _ an ⟨_,be,bg,rfl,aI,aL⟩
 refine Im0 aI 7 R (λD P a8 bd=>⟨((T3 F O P).cl R),have G:=aL.mxz bd a8 R (R:7+2=9);Js3 R U51 R R (Jt1<|Jd<|Ob h λal aZ aU=>Jt3 [0] (λd e a=>∃b,∃C:VI,∃z t,e=(5,.slice z C.length t)::d/\Stp [3] D an b a/\Oc E6 2 b a 3 z t C/\al=FX C) (Jv<|Ju3 [0,3,19,20] (λc d e a=>∃b g,∃f:VI,∃j k,e=(5,.slice j f.length k)::(21,vi g)::d/\Stp [3] D an b a/\Oc E6 2 b a 3 j k f/\0<=g/\FV ((ap.length:Int)-g)=c/\cntM (fb p1 ap) c g f=some al) ⟨_,_,⟨D,0,([]:VI),aF,aE,R,Jo3,Fct,(by decide),(by simp),aZ⟩,(KM R)⟩ ?_) ?_)⟩)
 rintro c _ ao ⟨s,g,f,j,k,rfl,Q,ag,ah,A,h⟩
 rcases c with _|c
 exact Jf3 R<|Jq<|Jx2 R (dcf A)<|Jc1<|Jt<|Jt<|Jb1<|Oh h<|Jw1 _ ⟨s,f,j,k,R,Fct,ag,R⟩<|KM R
 refine Ob h λbq h I=>Jf3 R<|Jq<|Jw2 R (dct A)<|Js<|Jp<|Jq<|Jv<|Jj3<|Ob h λaq aj h=>Jd3 R G.rdc aj U51 Z30 ?_
 obtain⟨_,_,H,aX⟩:=(G.stp Q).gZ aj
 refine Jc3 R I30 aX<|Jb 1 R<|Jl3 1 R<|Js3 R U30 R R<|Jb 1 R<|Ob h λam a0 aV=>Jt3 [0,3,19,20,21] (λd e a=>∃b,∃q:VI,∃x y,e=(5,.slice x q.length y)::d/\Stp [3] s ao b a/\Oc E6 2 b a 3 x y q/\am=FX q) (Jv<|Ju3 [0,3,19,20,21,25,26] (λc d e a=>∃b i,∃p:VI,∃n m,e=(5,.slice n p.length m)::(27,vi i)::d/\Stp [3] s ao b a/\Oc E6 2 b a 3 n m p/\0<=i/\FV ((aq.length:Int)-i)=c/\cntM (fc p1 aq) c i p=some am) ⟨_,_,⟨s,0,f,j,k,R,Jo3,ag,(by decide),(by simp),a0⟩,(KM R)⟩ ?_) ?_
 rintro c _ _ ⟨N,i,p,n,m,rfl,S,aO,ai,B,h⟩
 rcases c with _|c
 exact Jf3 R<|Jq<|Jx2 R (dcf B)<|Jc1<|Jt<|Jt<|Jb1<|Oh h<|Jw1 _ ⟨N,p,n,m,R,Fct,aO,R⟩<|KM R
 refine Ob h λbr h K=>Jf3 R<|Jq<|Jw2 R (dct B)<|Js<|Jp<|Jq<|Jv<|Jj3<|Ob h λbb ak h=>Jd3 R H ak U30 Z2<|Jc3 R I2 ((H.stp S).gInt ak)<|Jb 1 R<|Jj3<|Je3 R U120 R Z30<|Jc3 R I30 ((af.stp<|T5 F O P Q S).ld 0 R R)<|Jn 1 R<|Ob h λbs a4 h=>Jw3 R C135 (ch (J:=Mk N) Gct a4)<|Kb λba E _=>Tv<|Jd<|Ob h λL h aW=>Jt3 [0,3,19,20,21,25,26,27] (λd e a=>∃b u v,e=(5,.slice u L.length v)::d/\Stp [3] E ba b a/\Oc E6 2 b a 3 u v L) ?_ ?_
 exact Bk h (λa1 h=>Jy R<|Js<|Oh h<|Jw1 _ ⟨E,n,m,R,Jo3,Fct⟩<|KM R) (λa1 h=>Jx R<|Jm3 2 R<|Ji4 E 12 [bb] R Y30 bS R λbj bh _ aA _ aQ=>Tv<|Ob h λ_ a5 h=>Jd4 aA E6 3 [] R Y30 bS R Fct (Sl.srcP (cd _) aQ.rdc) bU a5 R λaH aG _ aB _ aR=>Tv<|Jc 1 R<|Oh h<|Jw1 _ ⟨aB,aH,aG,R,Fct,aR⟩<|KM R)
 rintro _ _ ⟨az,u,v,rfl,_,aP⟩
 exact have h:=aW;Jz (Jp<|Jg3 R<|wr2 ai B H.len_le ▸ (Ou h K (λK=>Ja2 ⟨az,i+1,L,u,v,R,Fct,aP,nxz ai,nxm B,K⟩ R)))
 rintro _ _ ⟨ay,q,x,y,rfl,_,aN,rfl⟩
 exact have h:=yI aV;Jz (Jp<|Jg3 R<|wr2 ah A G.len_le ▸ (Ou h I (λI=>Ja2 ⟨ay,g+1,q,x,y,R,Fct,aN,nxz ah,nxm A,I⟩ R)))
 rintro _ _ ⟨ax,C,z,t,rfl,_,_,rfl⟩
 refine have h:=yI aU;Jp (Jl3 1 R<|Ob h λ_ a6 h=>Jw3 R call176 (dW (J:=λo=>mp [(3,2)] 0<|ax o) Fct a6) ?_)
 rintro _ _ ⟨_,rfl,aJ,aS,aY⟩
 exact Im aJ 10 R (λaC _ a7=>Tv<|Jd<|Jf3 R<|Ju<|Jb2 (l:=[.tmp 4]) results190 (Jq2 R R) R<|Oh h<|⟨(λo=>ren [(12,2)]<|aC o),z,t,(by simp only[(aY)]),Fct,((aS.mx (bW _) a7 R (R:10+2=12)).map (ren [(12,2)]) R R)⟩)
theorem qb {b c}{p0:VI}{p1:Int}(m:Rd Ri J w 0 b c p0){r:Bool}(h:l9 p0 p1=some r):Ret prog 148 [.slice b p0.length c,vi p1] w (Pvb J w r):=by
 refine Jp3 J func148 R ntmps148 R λn=>Jf3 R<|Jl3 1 R<|Ob h λo i h=>Jw3 R C25 (dJ (J:=Mk J) i)<|Kb λk a _=>Tv<|Jn 1 R<|Ob h λj h e=>Jk4 [4] 11 j a k 4 tv ?_ ?_
 exact Bk h (λf h=>Jn 2 R<|Je4 R<|Jn 1 R<|Oh h<|Jl4 tv R) (λf h=>Jn 2 R<|Ob h λ_ g h=>Jw3 R call27 (nK (J:=Mk a) Gct g)<|Kb λ_ _ _=>Tv<|Jn 1 R<|Oh h<|Jv1 _ tv ⟨R,_,Fct⟩<|KM R)
 rintro _ _ _ ⟨rfl,d,_⟩
 exact have h:=e;Jb 1 R (Ju<|Jb2 (l:=[.tmp 4]) results148 (Jq2 R R) R<|Oh h<|⟨d,R,Fct⟩)
theorem vb {p0:Sig}{C z A B}{p1:Det}{p2:Int}{u:Int}(F:Rd Rs J w 0 C z p1.Next) (aw:Rd Pair.rp J w 0 A B p1.Pairs){r:VI}(h:nO p0 p1 p2 u=some r):Ret prog 150 [.agg #[vi p0.In,vi p0.Out],.agg #[.slice C p1.Next.length z,.slice A p1.Pairs.length B],vi p2,vi u] w (λaq b=>∃c L M,aq= .slice L r.length M/\Ent J w c b/\Rd Ri c b 0 L M r):=by
 refine Jp3 J func150 R ntmps150 R λax=>Jj3<|Jx3 J 2 R λ_ _ P W ag=>Tv<|Jx3 P 3 R λ_ _ V y ai=>Tv<|Jb 1 R<|Jj3<|Jc4 V E6 4 R Y30 bS R λab aa v O o ae=>Tv<|Jb 1 R<|Jq<|Jf3 R<|Ob h λK al aj=>?_
 obtain⟨k,p,au⟩:=eD O v 4
 refine Jx1 (λn b=>∃c,∃j:VI×Int,∃f d,n=[(9,.slice f j.1.length d)]/\Stp [] k v c b/\Rd Ri c b 0 f d j.1/\K=FX j) (Jv<|Ju3 [2,3,4,5] (λi N n b=>∃c,∃a:VI×Int,∃e g,n=(9,.slice e a.1.length g)::(10,vi a.2)::N/\Stp [] k v c b/\Rd Ri c b 0 e g a.1/\ci (jY p0 p1 p2 u) i a=some K) ⟨_,_,⟨k,(([]:VI),(0:Int)),ab,aa,R,Jo3,(Sl.st au ae.rdc),al⟩,(KM R)⟩ ?_) ?_
 rintro i _ _ ⟨S,a,e,g,rfl,q,_,h⟩
 rcases i with _|i
 cases h
 refine Ob h λ_ h G=>Jq<|Jl3 1 R<|Je3 R U39 R Z2 (have D:=ag.stp (T4 y o p q);Jc3 R I2 (D.ld 1 R R) (Ob h λay an h=>Jw3 R call47 (fH (J:=Mk S) an)<|Ki λ_ m s=>Tv<|Jb 1 R ?_))
 refine Bk h (λam h=>Jy R<|Jc1<|Jt<|Jt ?_) (λam h=>Jx R<|Js<|Jp<|Jq<|Jv<|Xn m [0,2,3] [2,5,11,23,26,6,14,15,18,28,32,33,37,41] λ_ t=>Jn 1 R<|Je3 R U60 R Z51<|Jn 3 R<|Jg R (Jd2 I51 R R<|hvC ((ai.stp<|T5 o p q s t).ld 0 R R) R)<|Ob h λ_ H h=>Jd3 R F H U51 Z30 ?_)
 cases h
 exact have h:=G;Jb1 (Oh h<|Jw1 _ ⟨m,(a.1,a.2),e,g,R,Fct,Fct,R⟩<|KM R)
 obtain⟨_,_,E,ak⟩:=(F.stp (T7 W y o p q s t)).gSl H
 refine Jg R (Jd2 I30 R R<|hvC ak R)<|Jg R (Jh4 (haC (D.stp<|s.tr t).cells R) I39 Z39 R)<|Ob h λ_ ao h=>Jw3 R call211 (uU (J:=Mk m) (p0:=p0) ao)<|Ki λ_ T x=>⟨(x.cl R),Ob h λ_ I h=>Jd3 R E I U30 Z2<|Jg R (Jd2 I2 R R<|hvC (E.gInt I) R)<|Ob h λar ap h=>Jw3 R call210 (yp (J:=λac=>mp [] 1<|T ac) (Jm2 Fct (mp [] 1) R R) ap) ?_⟩
 rintro _ _ ⟨_,Y,Z,rfl,ad,ah⟩
 refine Im0 ad 9 R (λU X _ av=>⟨((x.tr X).cl R),Jn 1 R<|Jt1<|Jo<|Jz<|Jp<|Jg3 R ?_⟩)
 cases h
 exact Ja2 ⟨U,(ar,((FW .i64<|a.2+1):Int)),Y,Z,R,Fct,(ah.mx av),G⟩ R
 rintro _ _ ⟨Q,j,f,d,rfl,_,af,rfl⟩
 exact have h:=yI aj;Jp (Jf3 R<|Ju<|Jb2 (l:=[.tmp 8]) results150 (Jq2 R R) R<|Oh h<|⟨Q,f,d,R,Fct,af⟩)
theorem qT {A B C D}{p0:Arena}(s:Rd Ri J w 0 A B p0.Owner) (e:Rd Rs J w 0 C D p0.Next){r:Bool}(h:mP p0=some r):Ret prog 152 [.agg #[.slice A p0.Owner.length B,.slice C p0.Next.length D]] w (Pvb J w r):=by
 refine Jp3 J func152 R ntmps152 R λax=>Jj3<|Jx3 J 2 R λ_ _ P m o=>Tv<|Jb 1 R<|Jj3<|Je3 R U53 R Z30<|Jc3 R I30 (o.ld 0 R R)<|Js3 R U30 R R<|Jb 1 R<|Jq<|Jl3 1 R<|Ob h λaA am h=>Jw3 R C25 (dJ (J:=Mk P) am)<|Kb λav U a=>Tv<|Jn 2 R<|Ob h λan h V=>Jk4 [1,3] 19 an U av 8 tv ?_ ?_
 exact Bk h (λae h=>Je3 R U53 R Z51 (have E:=o.stp a;Jc3 R I51 (E.ld 1 R R) (Js3 R U51 R R<|Je3 R U53 R Z30<|Jc3 R I30 (E.ld 0 R R)<|Js3 R U30 R R<|Jn 2 R<|Oh h<|Jl4 tv R))) (λae h=>Jn 1 R<|Je4 R<|Jn 2 R<|Je4 R<|Jn 3 R<|Oh h<|Jl4 tv R)
 rintro _ N _ ⟨rfl,k,b⟩
 refine have h:=V;Jd ?_
 refine Bk h (λaf h=>Jy R<|Js<|Jp<|Jq<|Jf3 R<|Ob h λM ad F=>Jx1 (λq t=>∃u,q=[]/\Stp [] k N u t/\M=FX ()) (Jv<|Ju3 [1,3] (λj O q t=>∃u g,q=(4,vi g)::O/\Stp [] k N u t/\0<=g/\FV ((p0.Owner.length:Int)-g)=j/\cntM (kG p0) j g ()=some M) ⟨_,_,⟨k,0,R,Jo3,(by decide),(by simp),ad⟩,(KM R)⟩ ?_) ?_) (λaf h=>Jx R<|Jf3 R<|Ju<|Jw<|Jb2 (l:=[.tmp 2]) results152 (Jq2 R R) R<|Oh h<|⟨k,R,Fct⟩)
 rintro j _ _ ⟨v,g,rfl,c,G,p,h⟩
 rcases j with _|j
 exact Jq<|Jl3 1 R<|Je3 R U53 R Z30<|Jc3 R I30 ((o.stp<|T3 a b c).ld 0 R R)<|Js3 R U30 R R<|Jb 1 R<|Jx2 R (dcf p)<|Jc1<|Jt<|Jt<|Jb1<|Oh h<|Jw1 _ ⟨v,R,Fct,R⟩ KN
 refine Ob h λay h f=>have Z:=dct p;Jq (Jl3 1 R<|Je3 R U53 R Z30 (have i:=o.stp (T3 a b c);Jc3 R I30 (i.ld 0 R R) (Js3 R U30 R R<|Jb 1 R<|Jw2 R Z<|Js<|Jp<|Jq<|Jv<|Jj3<|Je3 R U53 R Z30<|Jc3 R I30 (i.ld 0 R R)<|Jn 1 R<|Ob h λ_ H h=>Jd3 R s H U30 Z2<|Jc3 R I2 ((s.stp<|T4 m a b c).gInt H)<|Ob h λaz ak h=>Jw3 R C25 (dJ (J:=Mk v) ak)<|Kb λar S d=>Tv<|Jn 2 R<|Ob h λao h W=>Jk4 [1,3,4] 42 ao S ar 8 tv ?_ ?_)))
 refine Bk h (λag h=>Je3 R U53 R Z51<|Jc3 R I51 ((i.stp d).ld 1 R R)<|Jn 1 R<|Ob h λ_ I h=>Jd3 R e I U51 Z30 ?_) (λag h=>Jn 1 R<|Je4 R<|Jn 2 R<|Je4 R<|Jn 3 R<|Oh h<|Jl4 tv R)
 obtain⟨_,_,_,aa⟩:=(e.stp (T5 m a b c d)).gSl I
 exact Jc3 R I30 aa<|Js3 R U30 R R<|Jn 2 R<|Oh h<|Jl4 tv R
 rintro _ au _ ⟨rfl,T,n⟩
 refine Jn 1 R<|Ob W λap h X=>Jk4 [1,3,4] 51 ap T au 8 tv ?_ ?_
 refine Bk h (λah h=>Je3 R U53 R Z51<|Jc3 R I51 ((i.stp<|d.tr n).ld 1 R R)<|Jn 1 R<|Ob h λ_ K h=>Jd3 R e K U51 Z30 ?_) (λah h=>Jn 1 R<|Je4 R<|Jn 2 R<|Je4 R<|Jn 3 R<|Oh h<|Jl4 tv R)
 obtain⟨_,_,_,ab⟩:=(e.stp (T6 m a b c d n)).gSl K
 exact Jc3 R I30 ab<|Js3 R U30 R R<|Jn 2 R<|Oh h<|Jl4 tv R
 rintro _ aw _ ⟨rfl,x,z⟩
 refine Jn 1 R<|Ob X λaq h Y=>Jk4 [1,3,4] 61 aq x aw 9 tv ?_ ?_
 refine Bk h (λai h=>Je3 R U53 R Z51<|Jc3 R I51 ((i.stp<|T3 d n z).ld 1 R R)<|Jn 1 R<|Ob h λ_ L h=>Jd3 R e L U51 Z30 ?_) (λai h=>Jn 1 R<|Je4 R<|Jn 2 R<|Je4 R<|Jn 1 R<|Je4 R<|Jn 2 R<|Oh h<|Jl4 tv R)
 obtain⟨_,_,_,ac⟩:=(e.stp (T7 m a b c d n z)).gSl L
 exact Jc3 R I30 ac<|Jn 1 R<|Ob h λ_ al h=>Jw3 R call27 (nK (J:=Mk x) Gct al)<|Kb λ_ _ _=>Tv<|Jn 2 R<|Oh h<|Jv1 _ tv ⟨R,_,Fct⟩<|KM R
 rintro _ _ _ ⟨rfl,y,_⟩
 refine have h:=Y;Jd ?_
 exact Bk h (λaj h=>Jy R<|Js<|Jz<|Jp<|Jg3 R<|wr2 G p s.len_le ▸ (Ou h f (λf=>Ja2 ⟨y,g+1,R,Fct,nxz G,nxm p,f⟩ R))) (λaj h=>Jx R<|Jf3 R<|Ju<|Ja1<|Jw<|Jw<|Ou h f (λf=>Ov f F (λh=>Ja1<|Jr2<|Jw<|Jb2 (l:=[.tmp 2]) results152 (Jq2 R R) R<|Oh h<|⟨y,R,Fct⟩)))
 rintro _ _ ⟨Q,rfl,_,rfl⟩
 exact have h:=yI F;Jp (Jf3 R<|Ju<|Jb2 (l:=[.tmp 2]) results152 (Jq2 R R) R<|Oh h<|⟨Q,R,Fct⟩)
theorem zy (n:Nat):∀{w:World}{J:Col}{X W S U V T O Q Y P}{p0:l7Game}{N ak}{p1:VB}(ax:Rd Ri J w 0 X W p0.owner) (ay:Rd Ri J w 0 S U p0.prio) (az:Rd Rs J w 0 V T p0.next) (aA:Rd Rs J w 0 O Q p0.prev) (aB:Rd Ri J w 0 Y P p0.pick) (aC:Rd Rp.bool J w 0 N ak p1){r:VB}(h:kM n p0 p1=some r),Ret prog 161 [.agg #[.slice X p0.owner.length W,.slice S p0.prio.length U,.slice V p0.next.length T,.slice O p0.prev.length Q,.slice Y p0.pick.length P],.slice N p1.length ak] w (Pvs FT 4 J w r):=by
 induction n with
 |zero=>
  intro w J X W S U V T O Q Y P p0 N ak p1 ax ay az aA aB aC r h
  cases h
 |succ n bA=>
  intro w J X W S U V T O Q Y P p0 N ak p1 ax ay az aA aB aC r h
  have h:jE (kM n) p0 p1=some r:=h
  unfold jE at h
  refine Jp3 J func161 R ntmps161 R λdZ=>Jj3<|Jx3 J 2 R λ_ _ bX y av=>Tv<|Jb 1 R<|Jj3<|Jg4 tv R (Jh4 (haE av.cells) I177 Z177 R)<|Jn 1 R<|Ob h λL c9 h=>?_
  have cu:=ax.stp y
  have aw:=ay.stp y
  have cx:=az.stp y
  have cz:=aA.stp y
  have cF:=aB.stp y
  have Z:=aC.stp y
  refine Jw3 R call215 (zx (J:=Mk bX) (p0:=p0) Gct Gct Gct Gct Gct Gct c9) ?_
  rintro _ _ ⟨_,rfl,b8⟩
  obtain⟨bT,g,_⟩:=Ji b8 3 R
  refine Tv<|Jb 1 R<|Jl3 1 R<|Js3 R U179 R R<|Ob h λs da h=>Jl1 (J:=bT) (E:=FT) (z:=(false:Bool)) 5 R R R R R R R Y179 dw R R R R R (λ_ _ _=>R) (Jv2 da) λx v _ aN i _=>Tv<|Jb 1 R<|Jq<|Jf3 R ?_
  revert h
  cases d4:decide (L<0)
  refine JF λh=>Jy R<|Js<|Jp<|Jl3 1 R<|Jf R (rT R R R<|show ¬(2:Int)=0 by decide) (Jb 1 R<|Jl3 1 R<|Js3 R U179 R R<|Ob h λal db h=>Jl1 (J:=aN) (E:=FT) (z:=(false:Bool)) 6 R R R R R R R Y179 dw R R R R R (λ_ _ _=>R) (Jv2 db) λaY aV bJ ap j cs=>Tv<|Jb 1 R<|Jq<|Jf3 R<|Ob h λbD c2 cP=>?_)
  clear h
  refine Jt3 [1,2,6,7,8] (λd e b=>∃c,∃ai:VB,e=d/\Stp [6] ap bJ c b/\Oc FT 4 c b 6 aY aV ai/\al.length=ai.length/\bD=FX ai) ?_ ?_
  refine Jv<|Ju3 [1,2,5,6,7,8] (λa d e b=>∃c E,∃H:VB,e=(9,vi E)::d/\Stp [6] ap bJ c b/\Oc FT 4 c b 6 aY aV H/\al.length=H.length/\0<=E/\FV ((p1.length:Int)-E)=a/\cntM (lB p0 p1 L) a E H=some bD) ⟨_,_,⟨ap,0,al,R,Jo3,cs,R,(by decide),(by simp),c2⟩,(KM R)⟩ ?_
  rintro a _ dD ⟨aO,E,H,rfl,aU,a7,aJ,bl,ac,h⟩
  rcases a with _|a
  have ag:=h;obtain⟨ds,h⟩:=exq ag
  have aF:=dcf ac
  refine Jq<|Jl3 2 R<|Js3 R U179 R R<|Jb 1 R<|Jx2 R aF<|Jc1<|Jt<|Jt ?_
  cases h
  have h:=ag
  refine Jb1 ?_
  cases h
  exact Jw1 _ ⟨aO,H,R,Fct,a7,aJ,R⟩<|KM R
  obtain⟨ds,h,ag⟩:=BI h;unfold lB at h
  have aF:=dct ac
  refine Jq<|Jl3 2 R<|Js3 R U179 R R<|Jb 1 R<|Jw2 R aF<|Js<|Jp<|Jq<|Jv<|Jm3 4 R<|Ob h λdJ bq h=>Jd3 R Z bq U179 Z4<|Jc3 R I4 ((Z.stp<|T4 g i j aU).gBool bq)<|Jn 1 R<|Ob h λdx h cQ=>Jk4 [1,2,5,6,7,8,9,39,40] 53 dx aO dD 8 tv ?_ ?_
  revert h
  cases d7:dJ
  refine JF λh=>Jn 1 R<|Je4 R<|Jn 2 R<|Je4 R<|Jn 3 R ?_
  cases h
  exact Jl4 tv R
  have aP:=(T4 g i j aU)
  refine JT λh=>Je3 R U177 R Z30<|Jc3 R I30 ((av.stp aP).ld 1 R R)<|Jn 1 R<|Ob h λ_ br h=>Jd3 R aw br U30 Z2<|Jc3 R I2 ((aw.stp aP).gInt br)<|Jn 3 R ?_
  cases h
  exact Jl4 tv R
  rintro _ _ _ ⟨rfl,b2,_⟩
  have h:=cQ
  refine Ob h λ_ dc h=>Jf R (Jg2 a7.rdc dc U179 Z4 R R aJ R)<|Ob h λbL bv h=>Jk1 (J:=b2) (E:=FT) 6 [] R R R R R R R R Z4 R R R R Fct bv λ_ b3 _ cv=>Tv<|?_
  have cY:al.length=bL.length:=aJ.trans (Ju2 bv).2.2.2.symm
  refine Jo<|Jz<|Jp<|Jg3 R<|wr2 bl ac Z.len_le ▸ ?_
  cases h
  exact Ja2 ⟨b3,E+1,bL,R,Fct,cv,cY,nxz bl,nxm ac,ag⟩ R
  rintro _ _ ⟨b1,ai,rfl,t,ct,cX,rfl⟩
  have h:=yI cP
  refine Jp<|Jl3 1 R ?_
  have a8:=av.stp (T4 g i j t)
  refine Jg4 tv R (Jh4 (haE a8.cells) I177 Z177 R)<|Jn 3 R<|Ob h λ_ dd h=>?_
  have a9:=cu.stp (T4 g i j t)
  have ba:=aw.stp (T4 g i j t)
  have bb:=cx.stp (T4 g i j t)
  have bc:=cz.stp (T4 g i j t)
  have bd:=cF.stp (T4 g i j t)
  have be:=Z.stp (T4 g i j t)
  refine Jw3 R call217 (Ret.cast (by simp only[cX,List.cons_append,List.nil_append])<|oL (J:=Mk b1) (p0:=p0) (Jn3 a9) (Jn3 ba) (Jn3 bb) (Jn3 bc) (Jn3 bd) (Jn3 be) (Jn3 ct.rdc) dd) ?_
  rintro _ _ ⟨_,dO,dY,rfl,cc,cw⟩
  obtain⟨b4,u,dl⟩:=Ji cc 7 R
  refine Tv<|Ob h λdK de h=>?_
  have G:=be.stp u
  refine Jw3 R call216 (sx (J:=Mk b4) Gct (Jn3 (cw.mx dB dl R (R:7+2=9)).rdc) de) ?_
  rintro _ _ ⟨_,dT,dV,rfl,cd,cy⟩
  obtain⟨b5,o,dm⟩:=Ji cd 10 R
  refine Tv<|?_
  have bf:=cy.mx dB dm R (R:10+2=12)
  refine Jb 1 R<|Jj3 ?_
  have bg:=a8.stp (u.tr o)
  refine Jg4 tv R (Jh4 (haE bg.cells) I177 Z177 R)<|Jn 1 R<|Ob h λdL df h=>?_
  have cA:=a9.stp (u.tr o)
  have cB:=ba.stp (u.tr o)
  have cC:=bb.stp (u.tr o)
  have cD:=bc.stp (u.tr o)
  have cE:=bd.stp (u.tr o)
  refine Jw3 R call161 (bA (J:=Mk b5) (p0:=p0) Gct Gct Gct Gct Gct Gct df) ?_
  rintro _ _ ⟨_,dU,dW,rfl,ce,cG⟩
  obtain⟨b6,k,dn⟩:=Ji ce 13 R
  refine Tv<|?_
  have bh:=cG.mx dB dn R (R:13+2=15)
  refine Jb 1 R<|Jl3 1 R<|Js3 R U179 R R<|Ob h λam dg h=>Jl1 (J:=b6) (E:=FT) (z:=(false:Bool)) 16 R R R R R R R Y179 dw R R R R R (λ_ _ _=>R) (Jv2 dg) λaW aX bK aq f cf=>Tv<|Jb 1 R<|Jf3 R<|Jq<|Jf3 R<|Ob h λbE cZ cH=>?_
  clear h
  refine Jt3 [1,2,6,7,12] (λd e b=>∃c,∃B:Bool×VB,e=(13,.bool B.1)::d/\Stp [16] aq bK c b/\Oc FT 4 c b 16 aW aX B.2/\am.length=B.2.length/\bE=FX B) ?_ ?_
  refine Jv<|Ju3 [1,2,6,7,10,11,12] (λa d e b=>∃c q,∃p:Bool×VB,e=(13,.bool p.1)::(14,vi q)::d/\Stp [16] aq bK c b/\Oc FT 4 c b 16 aW aX p.2/\am.length=p.2.length/\0<=q/\FV ((p1.length:Int)-q)=a/\cntM (jC L dK dL) a q p=some bE) ⟨_,_,⟨aq,0,(false,am),R,Jo3,cf,R,(by decide),(by simp),cZ⟩,(KM R)⟩ ?_
  rintro a _ dz ⟨aK,q,p,rfl,aQ,aZ,aG,cR,bi,h⟩
  rcases a with _|a
  have ad:=h;obtain⟨dp,h⟩:=exq ad
  have A:=dcf bi
  refine Jq<|Jl3 2 R<|Js3 R U179 R R<|Jb 1 R<|Jx2 R A<|Jc1<|Jt<|Jt ?_
  cases h
  have h:=ad
  refine Jb1 ?_
  cases h
  exact Jw1 _ ⟨aK,(p.1,p.2),R,Fct,aZ,aG,R⟩<|KM R
  obtain⟨dp,h,ad⟩:=BI h;unfold jC at h
  have A:=dct bi
  refine Jq<|Jl3 2 R<|Js3 R U179 R R<|Jb 1 R<|Jw2 R A<|Js<|Jp<|Jq<|Jv<|Jl3 4 R<|Ob h λdM bs h=>Jd3 R bf.rdc bs U179 Z4<|Jc3 R I4 ((bf.stp<|T3 k f aQ).rdc.gBool bs)<|Jn 1 R<|Ob h λdy h cI=>Jk4 [1,2,6,7,10,11,12,13,14,74,75] 88 dy aK dz 8 tv ?_ ?_
  revert h
  cases d0:dM
  refine JF λh=>Jn 3 R<|Je4 R<|Jn 4 R ?_
  cases h
  exact Jl4 tv R
  refine JT λh=>Jn 2 R<|Ob h λ_ bt h=>Jd3 R bh.rdc bt U179 Z4<|Jc3 R I4 ((bh.stp<|f.tr aQ).rdc.gBool bt)<|Jn 2 R<|Jf R (Dp R R runUnderlying4 R)<|Jn 1 R ?_
  cases h
  exact Jl4 tv R
  rintro _ _ _ ⟨rfl,bP,_⟩
  have h:=cI
  refine Ob h λ_ dh h=>Jf R (Jg2 aZ.rdc dh U179 Z4 R R aG R)<|Ob h λbM bw h=>Jk1 (J:=bP) (E:=FT) 16 [] R R R R R R R R Z4 R R R R Fct bw λdA bQ _ a0=>Tv<|?_
  have bm:am.length=bM.length:=aG.trans (Ju2 bw).2.2.2.symm
  refine Jd<|Jm3 2 R<|Ob h λbB h cJ=>Jk4 [1,2,6,7,10,11,12,13,14] 96 bB bQ dA 5 tv ?_ ?_
  revert h
  cases d1:p.1
  refine JF λh=>Jn 2 R<|Ob h λ_ bu h=>Jf R (Jg2 a0.rdc bu U179 Z4 R R bm R)<|Jc3 R I4 (a0.rdc.gBool bu)<|Jn 1 R ?_
  cases h
  exact Jl4 tv R
  refine JT λh=>Jn 3 R<|Je4 R<|Jn 1 R ?_
  cases h
  exact Jl4 tv R
  rintro _ _ _ ⟨rfl,bR,_⟩
  have h:=cJ
  refine Jc 1 R<|Jz<|Jp<|Jg3 R ?_
  have c3:FW .i64 (q+1)=q+1:=wr1 cR (Jn2 A) G.len_le
  rw[c3]
  have A:=Jn2 A
  cases h
  exact Ja2 ⟨bR,q+1,(bB,bM),R,Fct,Fct,bm,by omega,by omega,ad⟩ R
  rintro _ bG ⟨M,B,rfl,m,cg,cS,rfl⟩
  have h:=yI cH
  refine Jp<|Jq<|Jf3 R ?_
  revert h
  cases d2:(!B.1)
  refine JF λh=>Jy R<|Js<|Jp<|Jj3 ?_
  have a2:=bg.stp (T3 k f m)
  refine Jg4 tv R (Jh4 (haE a2.cells) I177 Z177 R)<|Jn 4 R<|Ob h λdF c5 h=>?_
  have ci:=cA.stp (T3 k f m)
  have cj:=cB.stp (T3 k f m)
  have ck:=cC.stp (T3 k f m)
  have cl:=cD.stp (T3 k f m)
  have cm:=cE.stp (T3 k f m)
  have a3:=G.stp (T4 o k f m)
  refine Jw3 R call217 (Ret.cast (by simp only[cS,List.cons_append,List.nil_append])<|oL (J:=Mk M) (p0:=p0) (Jn3 ci) (Jn3 cj) (Jn3 ck) (Jn3 cl) (Jn3 cm) (Jn3 a3) (Jn3 cg.rdc) c5) ?_
  rintro _ _ ⟨_,dR,dN,rfl,b9,cn⟩
  obtain⟨aM,aR,di⟩:=Ji b9 17 R
  refine Tv<|Jb 1 R<|Jq<|Js1 (J:=aM) [2] none [(1,2),(2,2),(0,0),(3,1),(4,1),(5,2)] [] (by kernel_rfl) (by kernel_rfl) λ_ ar=>Jn 2 R<|Jg R (Jh4 (haC (a2.stp<|aR.tr ar).cells R) I177 Z177 R)<|Ob h λ_ c6 h=>?_
  have co:=a3.stp (aR.tr ar)
  have a4:=(cn.mx dB di R (R:17+2=19)).stp ar
  refine Jw3 R call216 (sx (J:=Mk aM) Gct Gct c6) ?_
  rintro _ _ ⟨_,dQ,dX,rfl,ca,cp⟩
  obtain⟨bW,au,dj⟩:=Ji ca 20 R
  refine⟨(au.cl R),Ob h λdG c7 h=>Jw3 R call161 (bA (J:=Mk bW) (p0:=p0) Gct Gct Gct Gct Gct (Jn3 (cp.mx dB dj R (R:20+2=22)).rdc) c7) ?_⟩
  rintro _ bH ⟨_,dP,dS,rfl,cb,cq⟩
  obtain⟨an,aS,dk⟩:=Ji cb 23 R
  refine⟨((au.tr aS).cl R),?_⟩
  have a5:=cq.mx dB dk R (R:23+2=25)
  refine Jn 1 R<|Jt1<|Jd<|Jq<|Jf3 R<|Ob h λbC c1 cM=>?_
  clear h
  refine Jt3 [6] (λd e b=>∃c,∃ah:VB,e=d/\Stp [5] an bH c b/\Oc FT 4 c b 5 x v ah/\s.length=ah.length/\bC=FX ah) ?_ ?_
  refine Jv<|Ju3 [1,6,7,16,17] (λa d e b=>∃c D,∃I:VB,e=(18,vi D)::d/\Stp [5] an bH c b/\Oc FT 4 c b 5 x v I/\s.length=I.length/\0<=D/\FV ((p1.length:Int)-D)=a/\cntM (lD L dF dG) a D I=some bC) ⟨_,_,⟨an,0,s,R,Jo3,Fct,R,(by decide),(by simp),c1⟩,(KM R)⟩ ?_
  rintro a _ bI ⟨ao,D,I,rfl,aT,a6,aI,bk,ab,h⟩
  rcases a with _|a
  have af:=h;obtain⟨dr,h⟩:=exq af
  have aE:=dcf ab
  refine Jq<|Jl3 2 R<|Js3 R U179 R R<|Jb 1 R<|Jx2 R aE<|Jc1<|Jt<|Jt ?_
  cases h
  have h:=af
  refine Jb1 ?_
  cases h
  exact Jw1 _ ⟨ao,I,R,Fct,a6,aI,R⟩<|KM R
  obtain⟨dr,h,af⟩:=BI h;unfold lD at h
  have aE:=dct ab
  refine Jq<|Jl3 2 R<|Js3 R U179 R R<|Jb 1 R<|Jw2 R aE<|Js<|Jp<|Jq<|Jv<|Jm3 4 R<|Ob h λdH bo h=>Jd3 R a5.rdc bo U179 Z4<|Jc3 R I4 ((a5.stp aT).rdc.gBool bo)<|Jn 1 R<|Ob h λdv h cN=>Jk4 [1,6,7,16,17,18,134,135] 149 dv ao bI 9 tv ?_ ?_
  revert h
  cases d5:dH
  refine JF λh=>Jn 2 R<|Ob h λdI bp h=>Jd3 R a4.rdc bp U179 Z4<|Jc3 R I4 ((a4.stp<|T3 au aS aT).rdc.gBool bp)<|Jn 1 R<|Ob h λdu h cO=>Jk4 [1,6,7,16,17,18,134,135,140,141,142,143,144,145] 148 du ao bI 3 tv ?_ ?_
  revert h
  cases d6:dI
  refine JF λh=>Jn 3 R ?_
  cases h
  exact Jl4 tv R
  refine JT λh=>Jn 3 R ?_
  cases h
  exact Jl4 tv R
  rintro _ _ _ ⟨rfl,_,_⟩
  have h:=cO
  refine Jn 1 R ?_
  cases h
  exact Jv1 _ tv ⟨R,_,Fct⟩<|KM R
  refine JT λh=>Jn 3 R<|Je4 R<|Jn 5 R ?_
  cases h
  exact Jl4 tv R
  rintro _ _ _ ⟨rfl,bZ,_⟩
  have h:=cN
  refine Ob h λ_ c8 h=>Jf R (Jg2 a6.rdc c8 U179 Z4 R R aI R)<|Ob h λbO bz h=>Jk1 (J:=bZ) (E:=FT) 5 [] R R R R R R R R Z4 R R R R Fct bz λ_ b0 _ cr=>Tv<|?_
  have cW:s.length=bO.length:=aI.trans (Ju2 bz).2.2.2.symm
  refine Jo<|Jz<|Jp<|Jg3 R<|wr2 bk ab co.len_le ▸ ?_
  cases h
  exact Ja2 ⟨b0,D+1,bO,R,Fct,cr,cW,nxz bk,nxm ab,af⟩ R
  rintro _ _ ⟨bY,ah,rfl,_,_,cV,rfl⟩
  have h:=yI cM
  refine Jp<|Jf3 R<|Ju<|Jb2 (l:=[.tmp 4]) results161 (Jq2 R R) R ?_
  cases h
  exact⟨(λF=>ren [(5,2)]<|bY F),x,v,(by simp only[cV]),Fct,Fct⟩
  refine JT λh=>Jx R<|Jq<|Jf3 R<|Ob h λbF c0 cK=>?_
  clear h
  refine Jt3 [6] (λd e b=>∃c,∃aj:VB,e=d/\Stp [5] M bG c b/\Oc FT 4 c b 5 x v aj/\s.length=aj.length/\bF=FX aj) ?_ ?_
  refine Jv<|Ju3 [1,6,7] (λa d e b=>∃c C,∃K:VB,e=(15,vi C)::d/\Stp [5] M bG c b/\Oc FT 4 c b 5 x v K/\s.length=K.length/\0<=C/\FV ((p1.length:Int)-C)=a/\cntM (lC p1 L) a C K=some bF) ⟨_,_,⟨M,0,s,R,Jo3,Fct,R,(by decide),(by simp),c0⟩,(KM R)⟩ ?_
  rintro a _ dC ⟨aL,C,K,rfl,b7,a1,aH,bj,aa,h⟩
  rcases a with _|a
  have ae:=h;obtain⟨dq,h⟩:=exq ae
  have aD:=dcf aa
  refine Jq<|Jl3 2 R<|Js3 R U179 R R<|Jb 1 R<|Jx2 R aD<|Jc1<|Jt<|Jt ?_
  cases h
  have h:=ae
  refine Jb1 ?_
  cases h
  exact Jw1 _ ⟨aL,K,R,Fct,a1,aH,R⟩<|KM R
  obtain⟨dq,h,ae⟩:=BI h;unfold lC at h
  have aD:=dct aa
  refine Jq<|Jl3 2 R<|Js3 R U179 R R<|Jb 1 R<|Jw2 R aD<|Js<|Jp<|Jq<|Jv<|Jm3 4 R<|Ob h λdE bn h=>Jd3 R G bn U179 Z4<|Jc3 R I4 ((G.stp<|T5 o k f m b7).gBool bn)<|Jn 1 R<|Ob h λdt h cL=>Jk4 [1,6,7,15,105,106] 114 dt aL dC 3 tv ?_ ?_
  revert h
  cases d3:dE
  refine JF λh=>Jn 3 R ?_
  cases h
  exact Jl4 tv R
  refine JT λh=>Jn 3 R ?_
  cases h
  exact Jl4 tv R
  rintro _ _ _ ⟨rfl,bU,_⟩
  have h:=cL
  refine Ob h λ_ c4 h=>Jf R (Jg2 a1.rdc c4 U179 Z4 R R aH R)<|Ob h λbN bx h=>Jk1 (J:=bU) (E:=FT) 5 [] R R R R R R R R Z4 R R R R Fct bx λ_ bV _ ch=>Tv<|?_
  have cU:s.length=bN.length:=aH.trans (Ju2 bx).2.2.2.symm
  refine Jo<|Jz<|Jp<|Jg3 R<|wr2 bj aa G.len_le ▸ ?_
  cases h
  exact Ja2 ⟨bV,C+1,bN,R,Fct,ch,cU,nxz bj,nxm aa,ae⟩ R
  rintro _ _ ⟨bS,aj,rfl,_,_,cT,rfl⟩
  have h:=yI cK
  refine Jp<|Jf3 R<|Ju<|Jw<|Jb2 (l:=[.tmp 4]) results161 (Jq2 R R) R ?_
  cases h
  exact⟨(λF=>ren [(5,2)]<|bS F),x,v,(by simp only[cT]),Fct,Fct⟩
  refine JT λh=>Jx R<|Jf3 R<|Ju<|Jw<|Jb2 (l:=[.tmp 4]) results161 (Jq2 R R) R ?_
  cases h
  exact⟨(λF=>ren [(5,2)]<|aN F),x,v,R,Fct,Fct⟩
end
end Go.Proofs.YtldlmopdhmaceaaGreatDoor
