/- The walks, part 3. By program. -/
import Derived.Test.YtleekpaohfpooaaGreatFns0FW
import Derived.Test.YtleekpaohfpooaaGreatFns1FW
set_option linter.unusedVariables false
set_option linter.unusedSimpArgs false
open Go.IntKind renaming wrap → cb
open Sum renaming inr → eg, inl → gs
open Int renaming toNat → n6
namespace Go.Proofs.YtleekpaohfpooaaGreat
open Go Go.Wk Go.Proofs
set_option maxRecDepth 100000
set_option maxHeartbeats 1000000
variable {w:World}{κ:Col}
theorem qj {p0:Sig}{t v x u}{p1:Clause}(Q:Rd (Rp.int .i64) κ w 0 t v p1.A) (S:Rd (Rp.int .i64) κ w 0 x u p1.B){r:Bool}(h:jZ p0 p1=some r):Ret Tryz.prog 128 [.agg #[vi p0.In,vi p0.Out],.agg #[vi p1.Kind,.slice t p1.A.length v,.slice x p1.B.length u]] w (Pvb κ w r):=by
 unfold jZ at h
 refine Jk3 κ F128 R N128 R λhE=>Je [1,1,2] R<|Js3 (κ:=κ) 2 R λak w1 D i y=>Tv<|Js3 (κ:=D) 3 R λal aH q d P=>Tv<|Jb 1 R<|Jq<|Jq<|Js1 (κ:=q) [2,3] none [(0,2),(1,0),(2,2),(3,2),(4,2),(5,0),(6,2),(7,2),(8,2),(9,2),(10,0),(11,0),(12,1),(13,1),(14,2),(15,2),(16,2),(17,2),(18,0),(19,0),(20,1),(21,1),(22,2),(23,2)] [] (by kernel_rfl) (by kernel_rfl) λad c=>Jd3 R U67 R Z2 ?_
 have g:=P.stp c
 refine Jg R (Jc2 I2 R R<|hvC (g.ld 0 R R) R)<|Jn 2 R<|Ob h λA h T=>Jf4 [2,3] 12 A q ad [(4,2),(5,0),(6,2),(7,2)] [(8,2),(9,2),(10,0),(11,0),(12,1),(13,1),(14,2),(15,2),(16,2),(17,2),(18,0),(19,0),(20,1),(21,1),(22,2),(23,2)] (Cl.refl _ _ _) ?_ ?_
 revert h
 cases am:decide (p1.Kind<1)
 refine JF λh=>Jd3 R U67 R Z2<|Jg R (Jc2 I2 R R<|hvC (g.ld 0 R R) R)<|Jn 2 R ?_
 cases h
 exact Jv1 _ (Cl.refl _ _ _) ⟨R,_,Jj3⟩<|KM R
 refine JT λh=>Jn 1 R<|Ja4 R<|Jn 2 R ?_
 cases h
 exact Jv1 _ (Cl.refl _ _ _) ⟨R,_,Jj3⟩<|KM R
 rintro _ ae _ ⟨rfl,n,a⟩
 have h:=T
 refine Jn 1 R<|Ob h λB h U=>Jf4 [2,3] 20 B n ae [(9,2),(10,0),(11,0),(12,1),(13,1),(14,2),(15,2)] [(16,2),(17,2),(18,0),(19,0),(20,1),(21,1),(22,2),(23,2)] (a.cl R) ?_ ?_
 revert h
 cases an:A
 refine JF λh=>Jd3 R U67 R Z37<|Jg R (Jc2 I37 R R<|hvC (g.ld 1 R R) R)<|Jg R (Jc4 (haC (y.stp<|d.tr c).cells R) I28 Z28 R)<|Ob h λaK X h=>Jr3 R C103 (ip (κ:=Mk n) (p0:=p0) X) ?_
 rintro _ aD ⟨ar,rfl,J⟩
 obtain⟨E,e,ay⟩:=Ji J 4 R
 refine⟨((a.tr e).cl R),Ob h λaL Y h=>Jr3 R C195 (pu (κ:=Mk E) (Ji3<|Q.stp<|T5 i d c a e) Y) ?_⟩
 rintro _ aE ⟨au,rfl,K⟩
 obtain⟨ai,j,az⟩:=Ji K 6 R
 refine⟨((T3 a e j).cl R),Jn 2 R ?_⟩
 cases h
 exact Jv1 _ ((T3 a e j).cl R) ⟨R,_,(e.tr j).wk R⟩<|KM R
 refine JT λh=>Jn 1 R<|Ja4 R<|Ja4 R<|Jz3 R<|Jz3 R<|Jn 2 R ?_
 cases h
 exact Jv1 _ (a.cl R) ⟨R,_,Jj3⟩<|KM R
 rintro _ af _ ⟨rfl,o,b⟩
 have h:=U
 refine Jn 1 R<|Ob h λC h V=>Jf4 [3] 28 C o af [(17,2),(18,0),(19,0),(20,1),(21,1),(22,2),(23,2)] [] ((a.tr b).cl R) ?_ ?_
 revert h
 cases ao:B
 refine JF λh=>Jd3 R U67 R Z37<|Jg R (Jc2 I37 R R<|hvC (g.ld 2 R R) R)<|Jg R (Jc4 (haC (y.stp<|d.tr c).cells R) I28 Z28 R)<|Ob h λaM Z h=>Jr3 R C103 (ip (κ:=Mk o) (p0:=p0) Z) ?_
 rintro _ aF ⟨av,rfl,M⟩
 obtain⟨F,f,aA⟩:=Ji M 4 R
 refine⟨((T3 a b f).cl R),Ob h λaN aa h=>Jr3 R C195 (pu (κ:=Mk F) (Ji3<|S.stp<|T6 i d c a b f) aa) ?_⟩
 rintro _ aG ⟨aw,rfl,N⟩
 obtain⟨aj,k,aB⟩:=Ji N 6 R
 refine⟨((T4 a b f k).cl R),Jn 2 R ?_⟩
 cases h
 exact Jv1 _ ((T4 a b f k).cl R) ⟨R,_,(f.tr k).wk R⟩<|KM R
 refine JT λh=>Jn 1 R<|Ja4 R<|Ja4 R<|Jz3 R<|Jz3 R<|Jn 2 R ?_
 cases h
 exact Jv1 _ ((a.tr b).cl R) ⟨R,_,Jj3⟩<|KM R
 rintro _ aI _ ⟨rfl,p,m⟩
 have h:=V
 refine Jt1<|Jd ?_
 revert h
 cases ap:C
 refine JF λh=>Jy R<|Js<|Jp<|Je [2,1,1,2,2,1,2,2,2,2] R<|Jd3 R U67 R Z2 ?_
 have z:=g.stp (T3 a b m)
 refine Jb3 R I2 (z.ld 0 R R)<|Ob h λah ab h=>Jr3 R C196 (pp (κ:=Mk p) ab) ?_
 rintro _ ag ⟨ax,rfl,O⟩
 obtain⟨G,s,aC⟩:=Ji O 4 R
 refine Tv<|Jn 1 R<|Ob h λac h W=>Ju1 [(4,2),(5,1),(6,2),(7,2),(8,2)] [(9,2)] (λL w'=>L=[(37,.bool ac)]/\∃κ',Stp [] G ag κ' w') tv ?_ ?_
 revert h
 cases aq:ah
 refine JF λh=>Jd3 R U67 R Z37<|Jb3 R I37 ((z.stp s).ld 2 R R)<|Jn3 R U37 R R<|Jn 2 R ?_
 cases h
 exact Jg4 tv R
 refine JT λh=>Jn 1 R<|Jz3 R<|Jn 3 R ?_
 cases h
 exact Jg4 tv R
 rintro _ aJ _ ⟨rfl,H,I⟩
 have h:=W
 refine Jb 1 R<|Ju<|Ja2 (l:=[.tmp 4]) V128 (Jp2 R R) R ?_
 cases h
 exact⟨H,R,(hE.stp<|T8 i d c a b m s I)⟩
 refine JT λh=>Jx R<|Je3 R<|Ju<|Jw<|Ja2 (l:=[.tmp 4]) V128 (Jp2 R R) R ?_
 cases h
 exact⟨p,R,(hE.stp<|T6 i d c a b m)⟩
theorem eD {m s}{p0:(List Int)}{c1_0:Int}{n}(f:Rd (Rp.int .i64) κ w 0 m s p0) (x:Bc κ w 0 n 2 [vi c1_0]){r:Int}(h:cw p0 c1_0=some r):Ret Tryz.prog 47 [.slice m p0.length s,.func (.func 217) #[] #[.pointer (some ⟨n,0,none⟩)]] w (Pvi κ w r):=by
 unfold cw at h
 refine Jk3 κ F47 R N47 R λhE=>Je3 R<|Jq<|Jg3 [2,2,2] 1 R<|Jn3 R U37 R R<|Jb 1 R ?_
 have y:(p0.length:Int)<=9223372036854775807:=f.len_le
 refine Ob h λq A o=>?_
 clear h
 refine Jo3 [1] (λE L w'=>∃κ',L=E/\Stp [] κ w κ' w'/\q=eg ()) ?_ ?_
 refine Jv<|Jp3 [0,1,7] (λk E L w'=>∃κ' b,L=(8,vi b)::E/\Stp [] κ w κ' w'/\0<=b/\n6 ((p0.length:Int)-b)=k/\cntM (cr p0 c1_0) k b ()=some q) ⟨_,_,⟨κ,0,R,Jj3,(by decide),(by simp),A⟩,(KM R)⟩ ?_
 rintro k _ N ⟨i,b,rfl,d,z,G,h⟩
 rcases k with _ | k
 have e:=h;obtain⟨D,h⟩:=cn (eg (gs ()):Int⊕((Unit)⊕(Unit)))
 have c:decide (b<(p0.length:Int))=false:=Jo2 (by omega)
 refine Je3 R<|Jq<|Jw2 R c<|Jc1<|Jt<|Jt ?_
 cases h
 have h:=e
 refine Jb1 ?_
 cases h
 exact Jw1 _ ⟨i,R,d.wk R,R⟩<|KM R
 obtain⟨D,h,e⟩:=BI h;unfold cr at h
 have c:decide (b<(p0.length:Int))=true:=Jn2 (by omega)
 refine Je3 R<|Jq<|Jv2 R c<|Js<|Jp<|Jq<|Jv<|Je3 R<|Jg3 [2,2,2,2,1,1] 3 R<|Ob h λO p h=>Jc3 R f p U37 Z2<|Jb3 R I2 ((f.stp d).gInt p)<|Ob h λF C h=>WO.callV R R R R R R R R C217 (nK (κ:=Mk i) ((x.stp d).map (mp [] 0) R R) C) ?_
 rintro _ K ⟨I,rfl,v⟩
 obtain⟨g,j,J⟩:=Ji v 2 R
 refine Tv<|Jd ?_
 revert h
 cases H:F
 refine JF λh=>Jy R<|Js<|Jz<|Jp<|Jf3 R ?_
 have B:cb .i64 (b+1)=b+1:=wr1 z (Jm2 c) y
 rw[B]
 have c:=Jm2 c
 cases h
 exact Jz1 λa ha=>⟨k,_,Ja3 _,⟨g,b+1,R,(d.tr j).wk R,by omega,by omega,e⟩,(ha.mm R)⟩
 refine JT λh=>Jx R<|Je3 R<|Ju<|Ja1<|Jw<|Jw ?_
 cases h
 obtain rfl:=Option.some.inj e
 have h:=yL o
 refine Ja1<|Jq2<|Jw<|Ja2 (l:=[.tmp 4]) V47 (Jp2 R R) R ?_
 cases h
 exact⟨g,R,(hE.stp<|d.tr j)⟩
 rintro _ M ⟨t,rfl,u,rfl⟩
 have h:=yI o
 refine Jp<|Je3 R<|Ju<|Ja2 (l:=[.tmp 4]) V47 (Jp2 R R) R ?_
 cases h
 exact⟨t,R,(hE.stp u)⟩
theorem fc (n:Nat):∀{w:World}{κ:Col}{p0:Int}{a1 N}{p1:(List (List Int))}{x u}{m:(List Int)}{i l}{c0:(List Bool)}{G O}{c1:(List Bool)}{j y z A}(J:Rd (Rp.sl (Rp.int .i64)) κ w 0 a1 N p1) (X:Oc E6 2 κ w 2 x u m) (K:Oc Ep.bool 4 κ w 3 i l c0) (M:Rd Rp.bool κ w 0 G O c1) (Y:Bc κ w 4 j 37 [.slice x m.length u]) (C:Bc κ w 0 y 178 [.slice i c0.length l]) (Z:Bc κ w 0 z 178 [.slice G c1.length O]) (aa:Bc κ w 0 A 226 [.func (.func 218) #[] #[.pointer (some ⟨y,0,none⟩),.pointer (some ⟨z,0,none⟩),.pointer (some ⟨A,0,none⟩)]]){r:(List Int)×(List Bool)}(h:bW n p0 p1 m c0 c1=some r),Ret Tryz.prog 218 [vi p0,.slice a1 p1.length N,.func (.func 219) #[] #[.pointer (some ⟨j,0,none⟩)],.pointer (some ⟨y,0,none⟩),.pointer (some ⟨z,0,none⟩),.pointer (some ⟨A,0,none⟩)] w (λv w'=>∃(κ':Col) (ap:Option Addr) (aq:Nat),v= .tuple #[]/\Ent κ w κ' w'/\Oc E6 2 κ' w' 2 ap aq r.1/\Oc Ep.bool 4 κ' w' 3 i l r.2/\c0.length=r.2.length/\Bc κ' w' 4 j 37 [.slice ap r.1.length aq]):=by
 induction n with
 | zero=>
  intro w κ p0 a1 N p1 x u m i l c0 G O c1 j y z A J X K M Y C Z aa r h
  cases h
 | succ n bb=>
  intro w κ p0 a1 N p1 x u m i l c0 G O c1 j y z A J X K M Y C Z aa r h
  have h:cm (bW n) p0 p1 m c0 c1=some r:=h
  unfold cm at h
  refine Jk3 κ F218 R N218 R λhE=>Je [1,2,2,1] R<|Jb3 R I178 (C.ld 0 R R)<|Jn 1 R<|Ob h λbr a8 h=>Jc3 R K.rdc a8 U178 Z4<|Ob h λav an h=>Jk1 (κ:=κ) (E:=Ep.bool) 3 [] R R R R R R R R Z4 R R R R K an λw1 P f aM=>Tv<|?_
  have a4:c0.length=av.length:=(Jt2 an).2.2.2.symm
  refine Jd<|Jq<|Jg3 [2,2,2,1,2,2] 2 R<|Ob h λF aj h=>Jc3 R J aj U31 Z37 ?_
  have ai:=J.stp f
  obtain⟨bg,bm,W,a0⟩:=ai.gSl aj
  refine Jb3 R I37 a0<|Jn3 R U37 R R<|Jb 1 R ?_
  have aY:(F.length:Int)<=9223372036854775807:=W.len_le
  refine Ob h λau a6 aV=>?_
  clear h
  refine Jo3 [0,2,3,4,5] (λE L w'=>∃κ',∃q:(List Int)×(List Bool),∃S T,L=E/\Stp [2,3,4,7,8,9] P w1 κ' w'/\Oc E6 2 κ' w' 2 S T q.1/\Oc Ep.bool 4 κ' w' 3 i l q.2/\c0.length=q.2.length/\Bc κ' w' 4 j 37 [.slice S q.1.length T]/\au=eg q) ?_ ?_
  refine Jv<|Jp3 [0,1,2,3,4,5,17,18] (λk E L w'=>∃κ' d,∃g:(List Int)×(List Bool),∃t s,L=(19,vi d)::E/\Stp [2,3,4,7,8,9] P w1 κ' w'/\Oc E6 2 κ' w' 2 t s g.1/\Oc Ep.bool 4 κ' w' 3 i l g.2/\c0.length=g.2.length/\Bc κ' w' 4 j 37 [.slice t g.1.length s]/\0<=d/\n6 ((F.length:Int)-d)=k/\cntM (ck (bW n) p1 c1 F) k d g=some au) ⟨_,_,⟨P,0,(m,av),x,u,R,Jj3,(X.stp f),aM,a4,(Y.stp f),(by decide),(by simp),a6⟩,(KM R)⟩ ?_
  rintro k _ bd ⟨ad,d,g,t,s,rfl,e,U,B,D,V,aZ,bh,h⟩
  rcases k with _ | k
  have ab:=h;obtain⟨bc,h⟩:=cn (eg (gs g):((List Int)×(List Bool))⊕(((List Int)×(List Bool))⊕((List Int)×(List Bool))))
  have o:decide (d<(F.length:Int))=false:=Jo2 (by omega)
  refine Je3 R<|Jq<|Jw2 R o<|Jc1<|Jt<|Jt ?_
  cases h
  have h:=ab
  refine Jb1 ?_
  cases h
  exact Jw1 _ ⟨ad,(g.1,g.2),t,s,R,e.wk R,U,B,D,V,R⟩<|KM R
  obtain⟨bc,h,ab⟩:=BI h;unfold ck at h
  have o:decide (d<(F.length:Int))=true:=Jn2 (by omega)
  refine Je3 R<|Jq<|Jv2 R o<|Js<|Jp<|Jq<|Jv<|Je [2,1,2] R<|Ob h λbs ak h=>Jc3 R W ak U37 Z2<|Jb3 R I2 ((W.stp e).gInt ak)<|Jb 1 R<|Je [1,2,2,1,2,1,2,2,1,2,2] R ?_
  have af:=Z.stp (f.tr e)
  refine Jb3 R I178 (af.ld 0 R R)<|Jn 1 R<|Ob h λbf al h=>Jc3 R M al U178 Z4 ?_
  have ag:=M.stp (f.tr e)
  refine Jb3 R I4 (ag.gBool al)<|Jn 1 R<|Ob h λar h aW=>Jf4 [0,1,2,3,4,5,10,17,18,19] 33 ar ad bd [(5,1),(6,2),(7,2),(8,1),(9,2),(10,2)] [] tv ?_ ?_
  revert h
  cases bi:bf
  refine JF λh=>Jz3 R<|Jn 2 R<|Jz3 R<|Jn 2 R ?_
  cases h
  exact Jg4 tv R
  refine JT λh=>Jb3 R I178 ((C.stp<|f.tr e).ld 0 R R)<|Jn 1 R<|Ob h λbt am h=>Jf R (Jf2 B.rdc am U178 Z4 R R D R)<|Jb3 R I4 (B.rdc.gBool am)<|Jn 2 R ?_
  cases h
  exact Jg4 tv R
  rintro _ be _ ⟨rfl,Q,c⟩
  have h:=aW
  refine Jd<|Ob h λp h aX=>Jo3 [0,1,2,3,4,5,17,18,19] (λE L w'=>∃κ' H I,L=E/\Stp [2,3,4,7,8,9] Q be κ' w'/\Oc E6 2 κ' w' 2 H I p.1/\Oc Ep.bool 4 κ' w' 3 i l p.2/\c0.length=p.2.length/\Bc κ' w' 4 j 37 [.slice H p.1.length I]) ?_ ?_
  revert h
  cases bj:ar
  refine JF λh=>Jy R<|Js ?_
  cases h
  exact Jw1 _ ⟨Q,t,s,R,Jj3,(U.stp c),(B.stp c),D,(V.stp c)⟩<|KM R
  refine JT λh=>Jx R<|Ja [1,2,2,2,1] R ?_
  have ah:=aa.stp (T3 f e c)
  refine Jb3 R I226 (ah.ld 0 R R)<|Jn 3 R<|Ob h λbu a9 h=>WO.callV R R R R R R R R C218 (bb (κ:=λb=>mp [(2,2),(3,3),(4,4)] 0<|Q b) (Jl2 (ai.stp<|e.tr c) (mp [(2,2),(3,3),(4,4)] 0) R R) ((U.stp c).map (mp [(2,2),(3,3),(4,4)] 0) R R) ((B.stp c).map (mp [(2,2),(3,3),(4,4)] 0) R R) (Jl2 (ag.stp c) (mp [(2,2),(3,3),(4,4)] 0) R R) ((V.stp c).map (mp [(2,2),(3,3),(4,4)] 0) R R) (Bc.cast ((C.stp<|T3 f e c).map (mp [(2,2),(3,3),(4,4)] 0) R R) (by simp only[D])) ((af.stp c).map (mp [(2,2),(3,3),(4,4)] 0) R R) (ah.map (mp [(2,2),(3,3),(4,4)] 0) R R) a9) ?_
  rintro _ bp ⟨bk,aG,aD,rfl,aH,aQ,aR,a5,aS⟩
  obtain⟨ay,aC,ac⟩:=Ji aH 5 R
  refine Tv<|Jo ?_
  cases h
  exact Jw1 _ ⟨(λb=>ren [(7,2),(8,3),(9,4)]<|ay b),aG,aD,R,(Jy2 (aC.wk R) [(7,2),(8,3),(9,4)] R),((aQ.mx (bX _) ac R (R:5+2=7)).map (ren [(7,2),(8,3),(9,4)]) R R),((aR.mx dV ac R (R:5+3=8)).map (ren [(7,2),(8,3),(9,4)]) R R),(D.trans a5),((aS.mx ac R (R:5+4=9)).map (ren [(7,2),(8,3),(9,4)]) R R)⟩<|KM R
  rintro _ bo ⟨ax,H,I,rfl,aB,aN,aO,a3,aP⟩
  have h:=aX
  refine Jz<|Jp<|Jf3 R ?_
  have a7:cb .i64 (d+1)=d+1:=wr1 aZ (Jm2 o) aY
  rw[a7]
  have o:=Jm2 o
  cases h
  exact Jz1 λa ha=>⟨k,_,Ja3 _,⟨ax,d+1,(p.1,p.2),H,I,R,(T3 e c aB).wk R,aN,aO,a3,aP,by omega,by omega,ab⟩,(ha.mm R)⟩
  rintro _ bn ⟨aw,q,S,T,rfl,aA,aJ,aK,a2,aL,rfl⟩
  have h:=yI aV
  refine Jp<|Jh3 [2,2,1] 2 R<|Ob h λbv ba h=>WO.callV R R R R R R R R C219 (px (κ:=λb=>mp [(2,2),(4,3)] 0<|aw b) (aJ.map (mp [(2,2),(4,3)] 0) R R) (aL.map (mp [(2,2),(4,3)] 0) R R) ba) ?_
  rintro _ bq ⟨bl,aE,aF,rfl,aI,aT,aU⟩
  obtain⟨az,ae,ao⟩:=Ji aI 5 R
  refine Tv<|Jo<|DN.end0 V218 ?_
  cases h
  exact⟨(λb=>ren [(7,2),(8,4)]<|az b),aE,aF,R,((hE.stp<|T3 f aA ae).map (ren [(7,2),(8,4)]) R R),((aT.mx (bX _) ao R (R:5+2=7)).map (ren [(7,2),(8,4)]) R R),((aK.stp ae).map (ren [(7,2),(8,4)]) R R),a2,((aU.mx ao R (R:5+3=8)).map (ren [(7,2),(8,4)]) R R)⟩
theorem jb {p0:Sig}  {r:Bool}(h:jm p0=some r):Ret Tryz.prog 58 [.agg #[vi p0.In,vi p0.Out]] w (Pvb κ w r):=by
 unfold jm at h
 refine Jk3 κ F58 R N58 R λhE=>Je [1,2] R<|Js3 (κ:=κ) 2 R λu w1 d i c=>Tv<|Jb 1 R<|Je [2,1,1,2,2,1,1,2,2] R<|Jd3 R U28 R Z2<|Jb3 R I2 (c.ld 0 R R)<|Ob h λs n h=>Jr3 R C59 (cP (κ:=Mk d) n) ?_
 rintro _ q ⟨y,rfl,k⟩
 obtain⟨a,b,z⟩:=Ji k 3 R
 refine Tv<|Jn 1 R<|Ob h λp h m=>Jf4 [2] 10 p a q [(4,2),(5,1),(6,1),(7,2)] [(8,2)] tv ?_ ?_
 revert h
 cases v:s
 refine JF λh=>Jn 1 R<|Jz3 R<|Jz3 R<|Jn 1 R ?_
 cases h
 exact Jg4 tv R
 refine JT λh=>Jd3 R U28 R Z2<|Jb3 R I2 ((c.stp b).ld 1 R R)<|Ob h λD o h=>Jr3 R C59 (cP (κ:=Mk a) o) ?_
 rintro _ B ⟨x,rfl,j⟩
 obtain⟨t,f,A⟩:=Ji j 5 R
 refine Tv<|Jn 1 R ?_
 cases h
 exact Jv1 _ tv ⟨R,_,f.wk R⟩<|KM R
 rintro _ C _ ⟨rfl,e,g⟩
 have h:=m
 refine Jb 1 R<|Ju<|Ja2 (l:=[.tmp 2]) V58 (Jp2 R R) R ?_
 cases h
 exact⟨e,R,(hE.stp<|T3 i b g)⟩
theorem r7 {s A}{p0:(List Int)}{p1:Int}(m:Rd (Rp.int .i64) κ w 0 s A p0){r:Bool}(h:lg p0 p1=some r):Ret Tryz.prog 215 [.slice s p0.length A,vi p1] w (Pvb κ w r):=by
 unfold lg at h
 refine Jk3 κ F215 R N215 R λhE=>Je3 R<|Jq<|Je3 R ?_
 have I:(p0.length:Int)<=9223372036854775807:=m.len_le
 refine Ob h λz K t=>?_
 clear h
 refine Jx1 (λL w'=>∃κ',L=[]/\Stp [] κ w κ' w'/\z=eg ()) ?_ ?_
 refine Jv<|Jp3 [0,1] (λk E L w'=>∃κ' b,L=(5,vi b)::E/\Stp [] κ w κ' w'/\0<=b/\n6 ((p0.length:Int)-b)=k/\cntM (iH p0 p1) k b ()=some z) ⟨_,_,⟨κ,0,R,Jj3,(by decide),(by simp),K⟩,(KM R)⟩ ?_
 rintro k _ ad ⟨i,b,rfl,f,J,T,h⟩
 rcases k with _ | k
 have g:=h;obtain⟨O,h⟩:=cn (eg (gs ()):Bool⊕((Unit)⊕(Unit)))
 have d:decide (b<(p0.length:Int))=false:=Jo2 (by omega)
 refine Jq<|Jg3 [2,2,2,2] 2 R<|Jn3 R U37 R R<|Jb 1 R<|Jw2 R d<|Jc1<|Jt<|Jt ?_
 cases h
 have h:=g
 refine Jb1 ?_
 cases h
 exact Jw1 _ ⟨i,R,f.wk R,R⟩ KN
 obtain⟨O,h,g⟩:=BI h;unfold iH at h
 have d:decide (b<(p0.length:Int))=true:=Jn2 (by omega)
 refine Jq<|Jg3 [2,2,2,2] 2 R<|Jn3 R U37 R R<|Jb 1 R<|Jv2 R d<|Js<|Jp<|Jq<|Jv<|Jq<|Js1 (κ:=i) [0] none [(0,2),(1,2),(2,2),(4,2),(5,2),(3,0),(6,1),(7,2),(8,2),(9,2),(10,2),(11,2),(12,2),(13,2),(14,2),(16,2),(17,2),(18,2),(19,2),(15,0),(20,0),(21,2),(22,2),(23,2)] [] (by kernel_rfl) (by kernel_rfl) λZ j=>Jn 2 R<|Ob h λae u h=>Jc3 R m u U37 Z2<|Jn 2 R ?_
 have e:=m.stp (f.tr j)
 refine Jg R (Jc2 I2 R R<|hvC (e.gInt u) R)<|Ob h λQ N h=>Jr3 R C59 (cP (κ:=Mk i) N) ?_
 rintro _ B ⟨X,rfl,F⟩
 obtain⟨n,c,Y⟩:=Ji F 2 R
 refine⟨(c.cl R),Jn 2 R<|Ob h λy h G=>Jf4 [0,1,5] 35 y n B [(9,2),(10,2),(11,2),(12,2),(13,2),(14,2),(16,2),(17,2),(18,2),(19,2),(15,0),(20,0),(21,2),(22,2),(23,2)] [] (c.cl R) ?_ ?_⟩
 revert h
 cases U:(!Q)
 refine JF λh=>Jn 3 R<|Ob h λP h H=>Jf4 [0,1,5,20,21,22,23] 34 P n B [(12,2),(13,2),(14,2),(16,2),(17,2),(18,2),(19,2),(15,0),(20,0),(21,2),(22,2)] [(23,2)] (c.cl R) ?_ ?_
 revert h
 cases V:decide (0<b)
 refine JF λh=>Jn 7 R<|Ja4 R<|Ja4 R<|Jn 2 R ?_
 cases h
 exact Jv1 _ (c.cl R) ⟨R,_,Jj3⟩<|KM R
 refine JT λh=>Jn 2 R<|Ob h λaf v h=>Jc3 R e v U37 Z2<|Jn 3 R<|Ob h λag x h=>Jc3 R e x U37 Z2<|Jg R (Jc2 I2 R R<|hvC (e.gInt v) R)<|Jg R (Jc2 I2 R R<|hvC (e.gInt x) R)<|Jn 2 R ?_
 cases h
 exact Jv1 _ (c.cl R) ⟨R,_,Jj3⟩<|KM R
 rintro _ aa _ ⟨rfl,S,p⟩
 have h:=H
 refine Jn 1 R ?_
 cases h
 exact Jv1 _ ((c.tr p).cl R) ⟨R,_,p.wk R⟩<|KM R
 refine JT λh=>Jn 10 R<|Ja4 R<|Ja4 R<|Jn 3 R ?_
 cases h
 exact Jv1 _ (c.cl R) ⟨R,_,Jj3⟩<|KM R
 rintro _ ab _ ⟨rfl,o,q⟩
 have h:=G
 refine Jt1<|Jd ?_
 revert h
 cases W:y
 refine JF λh=>Jy R<|Js<|Jz<|Jp<|Jf3 R ?_
 have M:cb .i64 (b+1)=b+1:=wr1 J (Jm2 d) I
 rw[M]
 have d:=Jm2 d
 cases h
 exact Jz1 λa ha=>⟨k,_,Ja3 _,⟨o,b+1,R,(T4 f j c q).wk R,by omega,by omega,g⟩,(ha.mm R)⟩
 refine JT λh=>Jx R<|Je3 R<|Ju<|Ja1<|Jw<|Jw ?_
 cases h
 obtain rfl:=Option.some.inj g
 have h:=yL t
 refine Ja1<|Jq2<|Jw<|Ja2 (l:=[.tmp 4]) V215 (Jp2 R R) R ?_
 cases h
 exact⟨o,R,(hE.stp<|T4 f j c q)⟩
 rintro _ ac ⟨C,rfl,D,rfl⟩
 have h:=yI t
 refine Jp<|Je3 R<|Ju<|Ja2 (l:=[.tmp 4]) V215 (Jp2 R R) R ?_
 cases h
 exact⟨C,R,(hE.stp D)⟩
theorem ng {aD aS}{p0:(List Pair)}{a1 aT}{p1:(List (List Int))}{p2:Int}(aj:Rd Pair.rp κ w 0 aD aS p0) (ak:Rd (Rp.sl (Rp.int .i64)) κ w 0 a1 aT p1){r:(List Pair)}(h:jd p0 p1 p2=some r):Ret Tryz.prog 98 [.slice aD p0.length aS,.slice a1 p1.length aT,vi p2] w (Pvs Pair.ep127 127 κ w r):=by
 unfold jd at h
 refine Jk3 κ F98 R N98 R λhE=>Je3 R<|Je [1,2] R<|Jx3 (κ:=κ) (E:=Pair.ep127) 2 R Y69 cA R λa7 ba w1 T Z bp=>Tv<|Jb 1 R<|Jq<|Je3 R ?_
 have bE:(p0.length:Int)<=9223372036854775807:=aj.len_le
 refine Ob h λaQ bM bB=>?_
 clear h
 refine Jx1 (λL w'=>∃κ',∃S:(List Pair),∃J P,L=[(7,.slice J S.length P)]/\Stp [2,3,4,5,6] T w1 κ' w'/\Oc Pair.ep127 127 κ' w' 2 J P S/\aQ=eg S) ?_ ?_
 refine Jv<|Jp3 [0,1,2] (λk E L w'=>∃κ' e,∃t:(List Pair),∃N M,L=(7,.slice N t.length M)::(8,vi e)::E/\Stp [2,3,4,5,6] T w1 κ' w'/\Oc Pair.ep127 127 κ' w' 2 N M t/\0<=e/\n6 ((p0.length:Int)-e)=k/\cntM (gx p0 p1 p2) k e t=some aQ) ⟨_,_,⟨T,0,(([]:List Pair):(List Pair)),a7,ba,R,Jj3,bp,(by decide),(by simp),bM⟩,(KM R)⟩ ?_
 rintro k _ cG ⟨aq,e,t,N,M,rfl,F,aE,bG,cm,h⟩
 rcases k with _ | k
 have al:=h;obtain⟨bX,h⟩:=cn (eg (gs t):(List Pair)⊕(((List Pair))⊕((List Pair))))
 have s:decide (e<(p0.length:Int))=false:=Jo2 (by omega)
 refine Jq<|Jg3 [2,2,2,2] 2 R<|Jn3 R U69 R R<|Jb 1 R<|Jw2 R s<|Jc1<|Jt<|Jt ?_
 cases h
 have h:=al
 refine Jb1 ?_
 cases h
 exact Jw1 _ ⟨aq,t,N,M,R,F.wk R,aE,R⟩<|KM R
 obtain⟨bX,h,al⟩:=BI h;unfold gx at h
 have s:decide (e<(p0.length:Int))=true:=Jn2 (by omega)
 refine Jq<|Jg3 [2,2,2,2] 2 R<|Jn3 R U69 R R<|Jb 1 R<|Jv2 R s<|Js<|Jp<|Jq<|Jv<|Je [2,1,1] R<|Jf R (Ji4 [.slice none 0 0,.slice none 0 0] R)<|Jt3 (κ:=aq) 3 R X127 R λQ cI D G bk=>Tv<|Jh4 (κ:=D) 3 R Z127 R bk R λaU H bl=>Tv<|Jd<|Jq<|Je3 R ?_
 have bD:(p1.length:Int)<=9223372036854775807:=ak.len_le
 refine Ob h λaR bL bz=>?_
 clear h
 refine Jo3 [0,1,2,7,8,9] (λE L w'=>∃κ',∃b:(List Int)×(List Int),∃x y B v,L=E/\Stp [3,4,5] D aU κ' w'/\Oc E6 2 κ' w' 4 x y b.1/\Oc E6 2 κ' w' 5 B v b.2/\Bc κ' w' 3 Q 127 [.slice x b.1.length y,.slice B b.2.length v]/\aR=eg b) ?_ ?_
 refine Jv<|Jp3 [0,1,2,7,8,9] (λk E L w'=>∃κ' c,∃d:(List Int)×(List Int),∃z A m n,L=(10,vi c)::E/\Stp [3,4,5] D aU κ' w'/\Oc E6 2 κ' w' 4 z A d.1/\Oc E6 2 κ' w' 5 m n d.2/\Bc κ' w' 3 Q 127 [.slice z d.1.length A,.slice m d.2.length n]/\0<=c/\n6 ((p1.length:Int)-c)=k/\cntM (gz p0 p1 p2 e) k c d=some aR) ⟨_,_,⟨D,0,((([]:List Int):(List Int)),(([]:List Int):(List Int))),none,0,none,0,R,Jj3,Ow.nil,Ow.nil,bl,(by decide),(by simp),bL⟩,(KM R)⟩ ?_
 rintro k _ cJ ⟨V,c,d,z,A,m,n,rfl,I,ae,af,ag,bF,cl,h⟩
 rcases k with _ | k
 have am:=h;obtain⟨bW,h⟩:=cn (eg (gs d):(List Pair)⊕(((List Int)×(List Int))⊕((List Int)×(List Int))))
 have q:decide (c<(p1.length:Int))=false:=Jo2 (by omega)
 refine Jq<|Jg3 [2,2,2,2] 2 R<|Jn3 R U31 R R<|Jb 1 R<|Jw2 R q<|Jc1<|Jt<|Jt ?_
 cases h
 have h:=am
 refine Jb1 ?_
 cases h
 exact Jw1 _ ⟨V,(d.1,d.2),z,A,m,n,R,I.wk R,ae,af,ag,R⟩<|KM R
 obtain⟨bW,h,am⟩:=BI h;unfold gz at h
 have q:decide (c<(p1.length:Int))=true:=Jn2 (by omega)
 refine Jq<|Jg3 [2,2,2,2] 2 R<|Jn3 R U31 R R<|Jb 1 R<|Jv2 R q<|Js<|Jp<|Jq<|Jv<|Jq<|Jq<|Js1 (κ:=V) [0] none [(0,2),(1,2),(2,2),(3,2),(5,2),(6,2),(7,2),(9,2),(4,0),(8,0),(10,2),(11,0),(12,1)] [] (by kernel_rfl) (by kernel_rfl) λcK g=>Jn 2 R<|Ob h λcS aK h=>Jc3 R aj aK U69 Z127<|Jd3 R U127 R Z37<|Jn 2 R<|Ob h λcT aL h=>Jc3 R ak aL U31 Z37<|Jn 1 R ?_
 have ah:=aj.stp (T6 Z F G H I g)
 obtain⟨ch,bN,bJ⟩:=(ah).gSt aK
 obtain⟨ca,cv,cc,cw,rfl,bw,cj⟩:=Pair.un bN
 refine Jg R (Jc2 I37 R R<|hvC (λw' an=>bJ w' an 0 _ R) R) ?_
 have ai:=ak.stp (T6 Z F G H I g)
 obtain⟨cf,cz,aF,bH⟩:=ai.gSl aL
 refine Jg R (Jc2 I37 R R<|hvC bH R)<|Ob h λcU aM h=>Jc3 R aF aM U37 Z2<|Jg R (Jc2 I2 R R<|hvC (aF.gInt aM) R)<|Ob h λb1 bR h=>Jr3 R C81 (jc (κ:=Mk V) (Ji3 bw) bR) ?_
 rintro _ bY ⟨cr,rfl,bc⟩
 obtain⟨W,f,ct⟩:=Ji bc 6 R
 refine⟨(f.cl R),Jt1<|Jd<|Ob h λC h bA=>Jo3 [0,1,2,7,8,9,10] (λE L w'=>∃κ' o p,L=E/\Stp [3,4] W bY κ' w'/\Oc E6 2 κ' w' 4 o p C/\Bc κ' w' 3 Q 127 [.slice o C.length p,.slice m d.2.length n]) ?_ ?_⟩
 revert h
 cases cp:b1
 refine JF λh=>Jy R<|Js ?_
 cases h
 exact Jw1 _ ⟨W,z,A,R,Jj3,(ae.stp<|g.tr f),(ag.stp<|g.tr f)⟩<|KM R
 refine JT λh=>Jx R<|Ja [2,1,2,1,1,2,1] R<|Jd3 R U127 R Z37 ?_
 have aH:=ag.stp (g.tr f)
 refine Jb3 R I37 (aH.ld 0 R R)<|Jn 1 R<|Jd4 (κ:=W) 8 [c] R Y37 a8 R λb5 b7 cM a2 aa br=>Tv<|Ob h λaW bS h=>Jy3 (κ:=a2) (E:=E6) 4 [] R Y37 a8 R (ae.stp<|T3 g f aa) (Sl.srcP (co _) br.rdc) bZ bS R λar ac cN av aA bs=>Tv<|Jd3 R U127 R Z37<|Ju3 (κ:=av) 3 (off:=0) (vc:=[.slice ar aW.length ac]) (cs':=[.slice ar aW.length ac,.slice m d.2.length n]) R Z37 R (aH.stp<|aa.tr aA) R λcO aB bt=>Tv<|Jo ?_
 cases h
 exact Jw1 _ ⟨av,ar,ac,R,(T3 aa aA aB).wk R,(bs.stp aB),bt⟩<|KM R
 rintro _ cL ⟨au,o,p,rfl,u,bq,aG⟩
 have h:=bA
 refine Jp<|Jq<|Js1 (κ:=au) [0] none [(0,2),(1,2),(2,2),(3,2),(5,2),(6,2),(7,2),(9,2),(4,0),(8,0),(10,2),(11,0),(12,1)] [] (by kernel_rfl) (by kernel_rfl) λcP i=>Jn 2 R<|Ob h λcV aN h=>Jc3 R ah aN U69 Z127<|Jd3 R U127 R Z37<|Jn 2 R<|Ob h λcW aO h=>Jc3 R ai aO U31 Z37<|Jn 1 R ?_
 obtain⟨ci,bO,bK⟩:=((ah.stp (T3 f u i))).gSt aN
 obtain⟨cd,cx,ce,cy,rfl,ck,bx⟩:=Pair.un bO
 refine Jg R (Jc2 I37 R R<|hvC (λw' an=>bK w' an 1 _ R) R) ?_
 obtain⟨cg,cB,aI,bI⟩:=(ai.stp (T3 f u i)).gSl aO
 refine Jg R (Jc2 I37 R R<|hvC bI R)<|Ob h λcX aP h=>Jc3 R aI aP U37 Z2<|Jg R (Jc2 I2 R R<|hvC (aI.gInt aP) R)<|Ob h λb2 bT h=>Jr3 R C81 (jc (κ:=Mk au) (Ji3 bx) bT) ?_
 rintro _ b0 ⟨cs,rfl,bd⟩
 obtain⟨X,j,cu⟩:=Ji bd 8 R
 refine⟨(j.cl R),Jt1<|Jd<|Ob h λao h bC=>Jo3 [0,1,2,7,8,9,10] (λE L w'=>∃κ' K O,L=E/\Stp [3,5] X b0 κ' w'/\Oc E6 2 κ' w' 5 K O ao/\Bc κ' w' 3 Q 127 [.slice o C.length p,.slice K ao.length O]) ?_ ?_⟩
 revert h
 cases cq:b2
 refine JF λh=>Jy R<|Js ?_
 cases h
 exact Jw1 _ ⟨X,m,n,R,Jj3,(af.stp<|T5 g f u i j),(aG.stp<|i.tr j)⟩<|KM R
 refine JT λh=>Jx R<|Ja [2,1,2,1,1,2,1] R<|Jd3 R U127 R Z37 ?_
 have aJ:=aG.stp (i.tr j)
 refine Jb3 R I37 (aJ.ld 1 R R)<|Jn 1 R<|Jd4 (κ:=X) 10 [c] R Y37 a8 R λb9 b8 cC aY Y be=>Tv<|Ob h λaX bU h=>Jy3 (κ:=aY) (E:=E6) 5 [] R Y37 a8 R (af.stp<|T6 g f u i j Y) (Sl.srcP (co _) be.rdc) bZ bU R λab ad cD ap aw bf=>Tv<|Jd3 R U127 R Z37<|Ju3 (κ:=ap) 3 (off:=1) (vc:=[.slice ab aX.length ad]) (cs':=[.slice o C.length p,.slice ab aX.length ad]) R Z37 R (aJ.stp<|Y.tr aw) R λcE ax bh=>Tv<|Jo ?_
 cases h
 exact Jw1 _ ⟨ap,ab,ad,R,(T3 Y aw ax).wk R,(bf.stp ax),bh⟩<|KM R
 rintro _ cR ⟨a4,K,O,rfl,aC,bu,bv⟩
 have h:=bC
 refine Jz<|Jp<|Jf3 R ?_
 have bP:cb .i64 (c+1)=c+1:=wr1 bF (Jm2 q) bD
 rw[bP]
 have q:=Jm2 q
 cases h
 exact Jz1 λa ha=>⟨k,_,Ja3 _,⟨a4,c+1,(C,ao),o,p,K,O,R,(T7 I g f u i j aC).wk R,(bq.stp<|T3 i j aC),bu,bv,by omega,by omega,am⟩,(ha.mm R)⟩
 rintro _ aV ⟨U,b,x,y,B,v,rfl,az,bm,bn,bo,rfl⟩
 have h:=yI bz
 refine Jp<|Jh3 [2,1,1,1,2] 1 R<|Jb4 tv R (Jc4 (haE bo.cells) I127 Z127 R)<|Jw3 (κ:=U) (E:=Pair.ep127) 6 [4,5] (parts:=[(0,.tmp 64)]) (cells:=[.slice x b.1.length y,.slice B b.2.length v]) (xs:=([(⟨b.1,b.2⟩:Pair)]:List Pair)) R Y69 cA R (Je4 ⟨[.slice x b.1.length y],[.slice B b.2.length v],Zl U aV [4],Zl U aV [5],R,Zl.sp (l1:=[4]) (l2:=[5]) R,Zl.sr (l1:=[4]) (l2:=[5]),⟨_,_,R,bm⟩,⟨_,_,R,bn⟩⟩) λb4 b6 cF aZ ay bi=>Tv<|Ob h λb3 bV h=>Jy3 (κ:=aZ) (E:=Pair.ep127) 2 [6] R Y69 cA R (aE.stp<|T4 G H az ay) bi.src (cZ R) bV R λbb a9 cH a0 a6 bj=>Tv<|Jc 1 R<|Jz<|Jp<|Jf3 R ?_
 have bQ:cb .i64 (e+1)=e+1:=wr1 bG (Jm2 s) bE
 rw[bQ]
 have s:=Jm2 s
 cases h
 exact Jz1 λa ha=>⟨k,_,Ja3 _,⟨a0,e+1,b3,bb,a9,R,(T6 F G H az ay a6).wk R,bj,by omega,by omega,al⟩,(ha.mm R)⟩
 rintro _ cQ ⟨a3,S,J,P,rfl,a5,bg,rfl⟩
 have h:=yI bB
 refine Jp<|Je3 R<|Ju<|Ja2 (l:=[.tmp 6]) V98 (Jp2 R R) R ?_
 cases h
 exact⟨a3,J,P,R,(hE.stp<|Z.tr a5),bg⟩
theorem iI {p0:Sig}  {r:Int}(h:dG p0=some r):Ret Tryz.prog 129 [.agg #[vi p0.In,vi p0.Out]] w (Pvi κ w r):=by
 unfold dG at h
 refine Jk3 κ F129 R N129 R λhE=>Je [1,2] R<|Js3 (κ:=κ) 2 R λi w1 a c f=>Tv<|Jb 1 R<|Je [2,1,1,2] R<|Jd3 R U28 R Z2<|Jb3 R I2 (f.ld 0 R R)<|Ob h λn g h=>Jr3 R C62 (dh (κ:=Mk a) g) ?_
 rintro _ m ⟨j,rfl,e⟩
 obtain⟨b,d,k⟩:=Ji e 3 R
 refine Tv<|Jb 1 R<|Ju<|Ja2 (l:=[.tmp 2]) V129 (Jp2 R R) R ?_
 cases h
 exact⟨b,R,(hE.stp<|c.tr d)⟩
theorem rY {P X}{p0:(List Pair)}{a1 Y}{p1:(List Int)}{p2:Int}(Q:Rd Pair.rp κ w 0 P X p0) (J:Rd (Rp.int .i64) κ w 0 a1 Y p1){r:(List Int)}(h:lb p0 p1 p2=some r):Ret Tryz.prog 134 [.slice P p0.length X,.slice a1 p1.length Y,vi p2] w (Pvs E6 2 κ w r):=by
 unfold lb at h
 refine Jk3 κ F134 R N134 R λhE=>Je3 R<|Je [1,2] R<|Jx3 (κ:=κ) (E:=E6) 2 R Y37 a8 R λau an w1 ab z aC=>Tv<|Jb 1 R<|Je [1,2] R<|Jx3 (κ:=ab) (E:=E6) 3 R Y37 a8 R λav ap Z y q aI=>Tv<|Jb 1 R<|Jq<|Je3 R ?_
 have aM:(p1.length:Int)<=9223372036854775807:=J.len_le
 refine Ob h λW aP aK=>?_
 clear h
 refine Jx1 (λL w'=>∃κ',∃g:(List Int)×(List Int),∃D G C F,L=[(7,.slice D g.1.length G),(8,.slice C g.2.length F)]/\Stp [2,3] y Z κ' w'/\Oc E6 2 κ' w' 2 D G g.1/\Oc E6 2 κ' w' 3 C F g.2/\W=eg g) ?_ ?_
 refine Jv<|Jp3 [0,1,2] (λk E L w'=>∃κ' b,∃c:(List Int)×(List Int),∃j i m n,L=(7,.slice j c.1.length i)::(8,.slice m c.2.length n)::(9,vi b)::E/\Stp [2,3] y Z κ' w'/\Oc E6 2 κ' w' 2 j i c.1/\Oc E6 2 κ' w' 3 m n c.2/\0<=b/\n6 ((p1.length:Int)-b)=k/\cntM (iD p0 p1 p2) k b c=some W) ⟨_,_,⟨y,0,((([]:List Int):(List Int)),(([]:List Int):(List Int))),au,an,av,ap,R,Jj3,(aC.stp q),aI,(by decide),(by simp),aP⟩,(KM R)⟩ ?_
 rintro k _ bj ⟨M,b,c,j,i,m,n,rfl,p,H,I,aN,bc,h⟩
 rcases k with _ | k
 have K:=h;obtain⟨aX,h⟩:=cn (eg (gs c):(List Int)⊕(((List Int)×(List Int))⊕((List Int)×(List Int))))
 have e:decide (b<(p1.length:Int))=false:=Jo2 (by omega)
 refine Jq<|Jg3 [2,2,2,2] 2 R<|Jn3 R U37 R R<|Jb 1 R<|Jw2 R e<|Jc1<|Jt<|Jt ?_
 cases h
 have h:=K
 refine Jb1 ?_
 cases h
 exact Jw1 _ ⟨M,(c.1,c.2),j,i,m,n,R,p.wk R,H,I,R⟩<|KM R
 obtain⟨aX,h,K⟩:=BI h;unfold iD at h
 have e:decide (b<(p1.length:Int))=true:=Jn2 (by omega)
 refine Jq<|Jg3 [2,2,2,2] 2 R<|Jn3 R U37 R R<|Jb 1 R<|Jv2 R e<|Js<|Jp<|Jq<|Jv<|Jg3 [2,2,2,2,1,2,2,1,2,1] 3 R<|Ob h λbq S h=>Jc3 R J S U37 Z2 ?_
 have o:=J.stp (T3 z q p)
 refine Jb3 R I2 (o.gInt S)<|Ob h λbr T h=>Jc3 R Q T U69 Z127<|Jd3 R U127 R Z37 ?_
 obtain⟨ba,aQ,aO⟩:=((Q.stp (T3 z q p))).gSt T
 obtain⟨a6,bg,a7,bh,rfl,bb,aJ⟩:=Pair.un aQ
 refine Jb3 R I37 (λw' aR=>aO w' aR 1 _ R)<|Jn 1 R<|Ob h λaZ aT h=>Jr3 R C197 (mw (κ:=Mk M) (Ji3 aJ) aT) ?_
 rintro _ aY ⟨be,rfl,ax⟩
 obtain⟨x,d,bf⟩:=Ji ax 4 R
 refine Tv<|Jd<|Ob h λf h aL=>Jo3 [0,1,2,9] (λE L w'=>∃κ' s t v u,L=(7,.slice s f.1.length t)::(8,.slice v f.2.length u)::E/\Stp [2,3] x aY κ' w'/\Oc E6 2 κ' w' 2 s t f.1/\Oc E6 2 κ' w' 3 v u f.2) ?_ ?_
 revert h
 cases bd:aZ
 refine JF λh=>Jy R<|Jh3 [2,2,2,2,1,1,1,2] 3 R<|Ob h λa2 V h=>Jc3 R o V U37 Z2<|Jb3 R I2 ((o.stp d).gInt V)<|Jd4 (κ:=x) 6 [a2] R Y37 a8 R λa4 a9 bn af B aF=>Tv<|Ob h λbt aV h=>Jy3 (κ:=af) (E:=E6) 3 [] R Y37 a8 R (I.stp<|d.tr B) (Sl.srcP (co _) aF.rdc) bZ aV R λar aw bo ag O aG=>Tv<|Jc 1 R ?_
 cases h
 exact Jw1 _ ⟨ag,j,i,ar,aw,R,(B.tr O).wk R,(H.stp<|T3 d B O),aG⟩<|KM R
 refine JT λh=>Jx R<|Jh3 [2,2,2,2,1,1,1,2] 3 R<|Ob h λa0 U h=>Jc3 R o U U37 Z2<|Jb3 R I2 ((o.stp d).gInt U)<|Jd4 (κ:=x) 6 [a0] R Y37 a8 R λa5 a3 bl ad A aD=>Tv<|Ob h λbs aU h=>Jy3 (κ:=ad) (E:=E6) 2 [] R Y37 a8 R (H.stp<|d.tr A) (Sl.srcP (co _) aD.rdc) bZ aU R λal ao bm ae N aE=>Tv<|Jc 1 R ?_
 cases h
 exact Jw1 _ ⟨ae,al,ao,m,n,R,(A.tr N).wk R,aE,(I.stp<|T3 d A N)⟩<|KM R
 rintro _ bk ⟨ac,s,t,v,u,rfl,aj,aA,aB⟩
 have h:=aL
 refine Jz<|Jp<|Jf3 R ?_
 have aS:cb .i64 (b+1)=b+1:=wr1 aN (Jm2 e) aM
 rw[aS]
 have e:=Jm2 e
 cases h
 exact Jz1 λa ha=>⟨k,_,Ja3 _,⟨ac,b+1,(f.1,f.2),s,t,v,u,R,(T3 p d aj).wk R,aA,aB,by omega,by omega,K⟩,(ha.mm R)⟩
 rintro _ bi ⟨aa,g,D,G,C,F,rfl,ai,ay,az,rfl⟩
 have h:=yI aK
 refine Jp<|Jg3 [2,2,1,2] 2 R<|Ob h λbu aW h=>Jy3 (κ:=aa) (E:=E6) 2 [] R Y37 a8 R ay (Sl.srcP (co _) az.rdc) bZ aW R λaq am bp ah ak aH=>Tv<|Jb 1 R<|Ju<|Ja2 (l:=[.tmp 6]) V134 (Jp2 R R) R ?_
 cases h
 exact⟨ah,aq,am,R,(hE.stp<|T4 z q ai ak),aH⟩
theorem sj {u v t x y s}{p0:Parity}{a1 I}{p1:(List Int)}(ac:Rd (Rp.int .i64) κ w 0 u v p0.Arena.Owner) (A:Rd (Rp.sl (Rp.int .i64)) κ w 0 t x p0.Arena.Next) (ad:Rd (Rp.int .i64) κ w 0 y s p0.Prio) (o:Rd (Rp.int .i64) κ w 0 a1 I p1){r:Bool}(h:lD p0 p1=some r):Ret Tryz.prog 273 [.agg #[.slice u p0.Arena.Owner.length v,.slice t p0.Arena.Next.length x,.slice y p0.Prio.length s],.slice a1 p1.length I] w (Pvb κ w r):=by
 unfold lD at h
 refine Jk3 κ F273 R N273 R λhE=>Je [1,2] R<|Js3 (κ:=κ) 2 R λab w1 i f z=>Tv<|Jb 1 R<|Jq<|Jg3 [2,2,2,1,2,2] 1 R<|Jn3 R U37 R R<|Jd3 R U79 R Z37<|Jb3 R I37 (z.ld 2 R R)<|Jn3 R U37 R R<|Jb 1 R ?_
 revert h
 cases ah:((p1.length:Int) !=(p0.Prio.length:Int))
 refine JF λh=>Jy R<|Js<|Jp<|Jq<|Je3 R ?_
 have P:(p1.length:Int)<=9223372036854775807:=o.len_le
 refine Ob h λH T B=>?_
 clear h
 refine Jx1 (λL w'=>∃κ',L=[]/\Stp [] i w1 κ' w'/\H=eg ()) ?_ ?_
 refine Jv<|Jp3 [1,2] (λk E L w'=>∃κ' b,L=(5,vi b)::E/\Stp [] i w1 κ' w'/\0<=b/\n6 ((p1.length:Int)-b)=k/\cntM (iR p0 p1) k b ()=some H) ⟨_,_,⟨i,0,R,Jj3,(by decide),(by simp),T⟩,(KM R)⟩ ?_
 rintro k _ am ⟨g,b,rfl,c,Q,ae,h⟩
 rcases k with _ | k
 have j:=h;obtain⟨W,h⟩:=cn (eg (gs ()):Bool⊕((Unit)⊕(Unit)))
 have d:decide (b<(p1.length:Int))=false:=Jo2 (by omega)
 refine Jq<|Jg3 [2,2,2,2] 2 R<|Jn3 R U37 R R<|Jb 1 R<|Jw2 R d<|Jc1<|Jt<|Jt ?_
 cases h
 have h:=j
 refine Jb1 ?_
 cases h
 exact Jw1 _ ⟨g,R,c.wk R,R⟩ KN
 obtain⟨W,h,j⟩:=BI h;unfold iR at h
 have d:decide (b<(p1.length:Int))=true:=Jn2 (by omega)
 refine Jq<|Jg3 [2,2,2,2] 2 R<|Jn3 R U37 R R<|Jb 1 R<|Jv2 R d<|Js<|Jp<|Jq<|Jv<|Jq<|Js1 (κ:=g) [0,2] none [(0,2),(1,2),(2,2),(3,0),(4,2),(5,2),(6,2),(7,2),(9,2),(12,2),(13,2),(14,2),(8,0),(10,2),(11,0),(15,0),(16,1),(17,2),(18,2)] [] (by kernel_rfl) (by kernel_rfl) λX e=>Jn 2 R<|Ob h λY C h=>Jc3 R o C U37 Z2 ?_
 have n:=o.stp (T3 f c e)
 refine Jg R (Jc2 I2 R R<|hvC (n.gInt C) R)<|Jn 2 R<|Ob h λG h O=>Jf4 [1,2,5] 36 G g X [(6,2),(7,2),(9,2),(12,2),(13,2),(14,2),(8,0),(10,2),(11,0),(15,0),(16,1),(17,2),(18,2)] [] (Cl.refl _ _ _) ?_ ?_
 revert h
 cases af:(Y !=(-1))
 refine JF λh=>Jn 6 R<|Ja4 R<|Jn 1 R<|Ja4 R<|Ja4 R<|Jz3 R<|Jn 2 R ?_
 cases h
 exact Jv1 _ (Cl.refl _ _ _) ⟨R,_,Jj3⟩<|KM R
 refine JT λh=>Jd3 R U79 R Z75<|Jd3 R U75 R Z31<|Jn 3 R<|Ob h λaq F h=>Jc3 R n F U37 Z2<|Jg R (Jc2 I31 R R<|hvC ((z.stp<|c.tr e).ld 1 R R) R)<|Ob h λap D h=>Jc3 R A D U31 Z37 ?_
 obtain⟨aa,ak,N,S⟩:=(A.stp (T3 f c e)).gSl D
 refine Jg R (Jc2 I37 R R<|hvC S R)<|Jg R (Jc2 I2 R R<|hvC (n.gInt F) R)<|Ob h λar V h=>Jr3 R C284 (sf (κ:=Mk g) (Ji3 N) V) ?_
 rintro _ an ⟨ai,rfl,M⟩
 obtain⟨Z,m,aj⟩:=Ji M 3 R
 refine⟨(m.cl R),Jn 2 R ?_⟩
 cases h
 exact Jv1 _ (m.cl R) ⟨R,_,m.wk R⟩<|KM R
 rintro _ ao _ ⟨rfl,p,q⟩
 have h:=O
 refine Jt1<|Jd ?_
 revert h
 cases ag:G
 refine JF λh=>Jy R<|Js<|Jz<|Jp<|Jf3 R ?_
 have U:cb .i64 (b+1)=b+1:=wr1 Q (Jm2 d) P
 rw[U]
 have d:=Jm2 d
 cases h
 exact Jz1 λa ha=>⟨k,_,Ja3 _,⟨p,b+1,R,(T3 c e q).wk R,by omega,by omega,j⟩,(ha.mm R)⟩
 refine JT λh=>Jx R<|Je3 R<|Ju<|Ja1<|Jw<|Jw ?_
 cases h
 obtain rfl:=Option.some.inj j
 have h:=yL B
 refine Ja1<|Jq2<|Jw<|Ja2 (l:=[.tmp 4]) V273 (Jp2 R R) R ?_
 cases h
 exact⟨p,R,(hE.stp<|T4 f c e q)⟩
 rintro _ al ⟨J,rfl,K,rfl⟩
 have h:=yI B
 refine Jp<|Je3 R<|Ju<|Ja2 (l:=[.tmp 4]) V273 (Jp2 R R) R ?_
 cases h
 exact⟨J,R,(hE.stp<|f.tr K)⟩
 refine JT λh=>Jx R<|Je3 R<|Ju<|Jw<|Ja2 (l:=[.tmp 4]) V273 (Jp2 R R) R ?_
 cases h
 exact⟨i,R,(hE.stp f)⟩
theorem uD {s y x o z p u v t q}{p0:l7Game}{a1 G}{p1:(List Bool)}(ac:Rd (Rp.int .i64) κ w 0 s y p0.owner) (A:Rd (Rp.int .i64) κ w 0 x o p0.prio) (ad:Rd (Rp.sl (Rp.int .i64)) κ w 0 z p p0.next) (ae:Rd (Rp.sl (Rp.int .i64)) κ w 0 u v p0.prev) (af:Rd (Rp.int .i64) κ w 0 t q p0.pick) (j:Rd Rp.bool κ w 0 a1 G p1){r:Int}(h:oc p0 p1=some r):Ret Tryz.prog 270 [.agg #[.slice s p0.owner.length y,.slice x p0.prio.length o,.slice z p0.next.length p,.slice u p0.prev.length v,.slice t p0.pick.length q],.slice a1 p1.length G] w (Pvi κ w r):=by
 unfold oc at h
 refine Jk3 κ F270 R N270 R λhE=>Je [1,2] R<|Js3 (κ:=κ) 2 R λab w1 g i P=>Tv<|Jb 1 R<|Je3 R<|Jq<|Je3 R ?_
 have T:(p1.length:Int)<=9223372036854775807:=j.len_le
 refine Ob h λD V S=>?_
 clear h
 refine Jx1 (λL w'=>∃κ' n,L=[(5,vi n)]/\Stp [] g w1 κ' w'/\D=eg n) ?_ ?_
 refine Jv<|Jp3 [1,2] (λk E L w'=>∃κ' b e,L=(5,vi e)::(6,vi b)::E/\Stp [] g w1 κ' w'/\0<=b/\n6 ((p1.length:Int)-b)=k/\cntM (ku p0 p1) k b e=some D) ⟨_,_,⟨g,0,((-1):Int),R,Jj3,(by decide),(by simp),V⟩,(KM R)⟩ ?_
 rintro k _ Z ⟨f,b,e,rfl,d,U,ag,h⟩
 rcases k with _ | k
 have m:=h;obtain⟨Y,h⟩:=cn (eg (gs e):Int⊕((Int)⊕(Int)))
 have c:decide (b<(p1.length:Int))=false:=Jo2 (by omega)
 refine Jq<|Jg3 [2,2,2,2] 2 R<|Jn3 R U178 R R<|Jb 1 R<|Jw2 R c<|Jc1<|Jt<|Jt ?_
 cases h
 have h:=m
 refine Jb1 ?_
 cases h
 exact Jw1 _ ⟨f,e,R,d.wk R,R⟩<|KM R
 obtain⟨Y,h,m⟩:=BI h;unfold ku at h
 have c:decide (b<(p1.length:Int))=true:=Jn2 (by omega)
 refine Jq<|Jg3 [2,2,2,2] 2 R<|Jn3 R U178 R R<|Jb 1 R<|Jv2 R c<|Js<|Jp<|Jq<|Jv<|Jg3 [2,2,2,1] 2 R<|Ob h λaa B h=>Jc3 R j B U178 Z4<|Jb3 R I4 ((j.stp<|i.tr d).gBool B)<|Jd<|Ob h λF h Q=>Jo3 [1,2,6] (λE L w'=>∃κ',L=(5,vi F)::E/\Stp [] f Z κ' w') ?_ ?_
 revert h
 cases ah:aa
 refine JF λh=>Jy R<|Js ?_
 cases h
 exact Jw1 _ ⟨f,R,Jj3⟩<|KM R
 refine JT λh=>Jx R<|Jh3 [2,2,1,2,2,1,1,2] 1 R<|Jd3 R U210 R Z37<|Jb3 R I37 ((P.stp d).ld 1 R R)<|Jn 1 R<|Ob h λan C h=>Jc3 R A C U37 Z2<|Jb3 R I2 ((A.stp<|i.tr d).gInt C)<|Ob h λao X h=>Jr3 R C247 (lP (κ:=Mk f) X) ?_
 rintro _ al ⟨ai,rfl,O⟩
 obtain⟨I,N,aj⟩:=Ji O 3 R
 refine Tv<|Jc 1 R ?_
 cases h
 exact Jw1 _ ⟨I,R,N.wk R⟩<|KM R
 rintro _ ak ⟨H,rfl,M⟩
 have h:=Q
 refine Jz<|Jp<|Jf3 R ?_
 have W:cb .i64 (b+1)=b+1:=wr1 U (Jm2 c) T
 rw[W]
 have c:=Jm2 c
 cases h
 exact Jz1 λa ha=>⟨k,_,Ja3 _,⟨H,b+1,F,R,(d.tr M).wk R,by omega,by omega,m⟩,(ha.mm R)⟩
 rintro _ am ⟨J,n,rfl,K,rfl⟩
 have h:=yI S
 refine Jp<|Je3 R<|Ju<|Ja2 (l:=[.tmp 4]) V270 (Jp2 R R) R ?_
 cases h
 exact⟨J,R,(hE.stp<|i.tr K)⟩
theorem qA {s y x o z p u v t q}{p0:l7Game}{a1 N}{p1:(List Bool)}{p2:Int}(X:Rd (Rp.int .i64) κ w 0 s y p0.owner) (Y:Rd (Rp.int .i64) κ w 0 x o p0.prio) (B:Rd (Rp.sl (Rp.int .i64)) κ w 0 z p p0.next) (Z:Rd (Rp.sl (Rp.int .i64)) κ w 0 u v p0.prev) (aa:Rd (Rp.int .i64) κ w 0 t q p0.pick) (C:Rd Rp.bool κ w 0 a1 N p1){r:Int}(h:kr p0 p1 p2=some r):Ret Tryz.prog 249 [.agg #[.slice s p0.owner.length y,.slice x p0.prio.length o,.slice z p0.next.length p,.slice u p0.prev.length v,.slice t p0.pick.length q],.slice a1 p1.length N,vi p2] w (Pvi κ w r):=by
 unfold kr at h
 refine Jk3 κ F249 R N249 R λhE=>Je [1,2] R<|Js3 (κ:=κ) 2 R λap w1 i e W=>Tv<|Jb 1 R<|Je3 R<|Jq<|Je3 R<|Ob h λK ag ad=>?_
 clear h
 refine Jx1 (λL w'=>∃κ',∃n:Int×Int,L=[(7,vi n.1)]/\Stp [] i w1 κ' w'/\K=eg n) ?_ ?_
 refine Jv<|Jp3 [1,2,3] (λk E L w'=>∃κ',∃b:Int×Int,L=(7,vi b.1)::(8,vi b.2)::E/\Stp [] i w1 κ' w'/\bU (gD p0 p1 p2) k b=some K) ⟨_,_,⟨i,((0:Int),(0:Int)),R,Jj3,ag⟩,(KM R)⟩ ?_
 rintro k _ ai ⟨g,b,rfl,c,h⟩
 rcases k with _ | k
 cases h
 obtain⟨ay,h,D⟩:=BI h;unfold gD at h
 refine Jq<|Jg3 [2,2,1,2,2,1,2,2] 1 R<|Jd3 R U210 R Z31 ?_
 have m:=W.stp c
 refine Jb3 R I31 (m.ld 2 R R)<|Jn 1 R<|Ob h λak F h=>Jc3 R B F U31 Z37 ?_
 have f:=B.stp (e.tr c)
 obtain⟨an,az,aq,ae⟩:=f.gSl F
 refine Jb3 R I37 ae<|Jn3 R U37 R R<|Jb 1 R ?_
 revert h
 cases ar:decide (b.2<(ak.length:Int))
 refine JF λh=>Jy R<|Jc1<|Jt<|Jt ?_
 cases h
 have h:=D
 refine Jb1 ?_
 cases h
 exact Jw1 _ ⟨g,(b.1,b.2),R,c.wk R,R⟩<|KM R
 refine JT λh=>Jx R<|Js<|Jp<|Jq<|Jv<|Je [2,1,2,2,1,2,2,1,2] R<|Jd3 R U210 R Z31<|Jb3 R I31 (m.ld 2 R R)<|Jn 1 R<|Ob h λaE G h=>Jc3 R f G U31 Z37 ?_
 obtain⟨ao,aA,A,af⟩:=f.gSl G
 refine Jb3 R I37 af<|Jn 1 R<|Ob h λaF H h=>Jc3 R A H U37 Z2<|Jb3 R I2 (A.gInt H)<|Jb 1 R<|Jg3 [2,2,2,1,2,1,2,2,1,2] 2 R<|Ob h λal I h=>Jc3 R C I U178 Z4<|Jb3 R I4 ((C.stp<|e.tr c).gBool I)<|Jn 1 R<|Ob h λJ h ab=>Jf4 [1,2,3,7,8] 37 J g ai [(5,1),(6,2),(7,2),(8,1),(9,2)] [] tv ?_ ?_
 revert h
 cases au:al
 refine JF λh=>Jz3 R<|Jn 2 R<|Jz3 R<|Jn 1 R ?_
 cases h
 exact Jg4 tv R
 have d:=(e.tr c)
 refine JT λh=>Jb4 tv R (Jc4 (haE m.cells) I210 Z210 R)<|Jn 2 R<|Ob h λaG ah h=>Jr3 R C269 (oI (κ:=Mk g) (p0:=p0) (Ji3<|X.stp d) (Ji3<|Y.stp d) (Ji3 f) (Ji3<|Z.stp d) (Ji3<|aa.stp d) ah) ?_
 rintro _ aB ⟨aw,rfl,V⟩
 obtain⟨am,S,ax⟩:=Ji V 3 R
 refine Tv<|Jn 1 R ?_
 cases h
 exact Jv1 _ tv ⟨R,_,S.wk R⟩<|KM R
 rintro _ aj _ ⟨rfl,j,T⟩
 have h:=ab
 refine Jd<|Ob h λM h ac=>Jo3 [1,2,3,8] (λE L w'=>∃κ',L=(7,vi M)::E/\Stp [] j aj κ' w') ?_ ?_
 revert h
 cases av:J
 refine JF λh=>Jy R<|Js ?_
 cases h
 exact Jw1 _ ⟨j,R,Jj3⟩<|KM R
 refine JT λh=>Jx R<|Jf3 R ?_
 cases h
 exact Jw1 _ ⟨j,R,Jj3⟩<|KM R
 rintro _ aC ⟨O,rfl,U⟩
 have h:=ac
 refine Jz<|Jp<|Jf3 R ?_
 cases h
 exact Jz1 λa ha=>⟨k,_,Ja3 _,⟨O,(M,((IntKind.i64.wrap<|b.2+1):Int)),R,(T3 c T U).wk R,D⟩,(ha.mm R)⟩
 rintro _ aD ⟨P,n,rfl,Q,rfl⟩
 have h:=yI ad
 refine Jp<|Je3 R<|Ju<|Ja2 (l:=[.tmp 6]) V249 (Jp2 R R) R ?_
 cases h
 exact⟨P,R,(hE.stp<|e.tr Q)⟩
theorem qx {S U T Q}{p0:Machine}(aC:Rd (Rp.sl (Rp.int .i64)) κ w 0 S U p0.Next) (aD:Rd (Rp.sl (Rp.int .i64)) κ w 0 T Q p0.Out){r:(List Int)}(h:gP p0=some r):Ret Tryz.prog 145 [.agg #[.slice S p0.Next.length U,.slice T p0.Out.length Q]] w (Pvs E6 2 κ w r):=by
 unfold gP at h
 refine Jk3 κ F145 R N145 R λhE=>Je [1,2] R<|Js3 (κ:=κ) 2 R λaZ w1 ag M X=>Tv<|Jb 1 R<|Je [2,1,2,1,2] R<|Jd3 R U33 R Z31<|Jb3 R I31 (X.ld 0 R R)<|Jn3 R U31 R R<|Ob h λaU aN h=>Jl1 (κ:=ag) (E:=E6) (z:=(0:Int)) 3 R R R R R R R Y37 a8 R R R R R (λ_ _ _=>R) (Ju2 aN) λau an aT I D aB=>Tv<|Jb 1 R<|Ob h λaS aJ aE=>?_
 clear h
 refine Jv<|Jp3 [1] (λk E L w'=>∃κ',∃d:(List Int),∃t s,L=(3,.slice t d.length s)::E/\Stp [4] I aT κ' w'/\Oc E6 2 κ' w' 3 t s d/\bU (eW p0) k d=some aS) ⟨_,_,⟨I,aU,au,an,R,Jj3,aB,aJ⟩,(KM R)⟩ ?_
 rintro k _ ba ⟨af,d,t,s,rfl,p,F,h⟩
 rcases k with _ | k
 cases h
 obtain⟨a9,h,Z⟩:=BI h;unfold eW at h
 refine Jv<|Je [1,2] R<|Jx3 (κ:=af) (E:=E6) 4 R Y37 a8 R λav ao ad B e ay=>Tv<|Jb 1 R<|Jq<|Je3 R ?_
 have aH:(d.length:Int)<=9223372036854775807:=F.len_le
 refine Ob h λab aK aF=>?_
 clear h
 refine Jo3 [1,3] (λE L w'=>∃κ',∃m:(List Int),∃v u,L=(4,.slice v m.length u)::E/\Stp [4] B ad κ' w'/\Oc E6 2 κ' w' 4 v u m/\ab=eg m) ?_ ?_
 refine Jv<|Jp3 [1,3] (λk E L w'=>∃κ' c,∃g:(List Int),∃x y,L=(4,.slice x g.length y)::(5,vi c)::E/\Stp [4] B ad κ' w'/\Oc E6 2 κ' w' 4 x y g/\0<=c/\n6 ((d.length:Int)-c)=k/\cntM (eX p0 d) k c g=some ab) ⟨_,_,⟨B,0,(([]:List Int):(List Int)),av,ao,R,Jj3,ay,(by decide),(by simp),aK⟩,(KM R)⟩ ?_
 rintro k _ ae ⟨o,c,g,x,y,rfl,i,W,aI,a0,h⟩
 rcases k with _ | k
 have G:=h;obtain⟨aR,h⟩:=cn (eg (gs g):(List Int)⊕(((List Int))⊕((List Int))))
 have f:decide (c<(d.length:Int))=false:=Jo2 (by omega)
 refine Jq<|Jg3 [2,2,2,2] 2 R<|Jn3 R U37 R R<|Jb 1 R<|Jw2 R f<|Jc1<|Jt<|Jt ?_
 cases h
 have h:=G
 refine Jb1 ?_
 cases h
 exact Jw1 _ ⟨o,g,x,y,R,i.wk R,W,R⟩<|KM R
 obtain⟨aR,h,G⟩:=BI h;unfold eX at h
 have f:decide (c<(d.length:Int))=true:=Jn2 (by omega)
 refine Jq<|Jg3 [2,2,2,2] 2 R<|Jn3 R U37 R R<|Jb 1 R<|Jv2 R f<|Js<|Jp<|Jq<|Jv<|Je3 R<|Jq<|Ob h λac aL aG=>?_
 clear h
 refine Jo3 [1,3,4,5] (λE L w'=>∃κ' A,L=(6,vi A)::E/\Stp [] o ae κ' w'/\ac=eg A) ?_ ?_
 refine Jv<|Jp3 [1,3,4,5] (λk E L w'=>∃κ' n,L=(6,vi n)::E/\Stp [] o ae κ' w'/\bU (gC p0 d c) k n=some ac) ⟨_,_,⟨o,(0:Int),R,Jj3,aL⟩,(KM R)⟩ ?_
 rintro k _ bd ⟨aj,n,rfl,j,h⟩
 rcases k with _ | k
 cases h
 obtain⟨a7,h,aa⟩:=BI h;unfold gC at h
 have K:=(T6 M D p e i j)
 refine Jq<|Je [1,2,2,2,1,2] R<|Jb4 tv R (Jc4 (haE (X.stp<|T5 D p e i j).cells) I33 Z33 R)<|Jn 3 R<|Ob h λaV aO h=>Jr3 R C204 (se (κ:=Mk aj) (p0:=p0) (Ji3<|aC.stp K) (Ji3<|aD.stp K) (Ji3 (F.stp<|T3 e i j).rdc) aO) ?_
 rintro _ be ⟨a3,rfl,aw⟩
 obtain⟨H,O,a5⟩:=Ji aw 5 R
 refine Tv<|Jb 1 R ?_
 revert h
 cases a1:(!aV)
 refine JF λh=>Jy R<|Jc1<|Jt<|Jt ?_
 cases h
 have h:=aa
 refine Jb1 ?_
 cases h
 exact Jw1 _ ⟨H,n,R,(j.tr O).wk R,R⟩<|KM R
 refine JT λh=>Jx R<|Js<|Jp<|Jv<|Jf3 R<|Jz ?_
 cases h
 exact Jz1 λa ha=>⟨k,_,Ja3 _,⟨H,((IntKind.i64.wrap<|n+1):Int),R,(j.tr O).wk R,aa⟩,(ha.mm R)⟩
 rintro _ bc ⟨ai,A,rfl,N,rfl⟩
 have h:=yI aG
 refine Jp<|Jh3 [2,2,1,1,2] 2 R<|Jd4 (κ:=ai) 5 [A] R Y37 a8 R λaY ar bf ak P az=>Tv<|Ob h λaW aP h=>Jy3 (κ:=ak) (E:=E6) 4 [] R Y37 a8 R (W.stp<|N.tr P) (Sl.srcP (co _) az.rdc) bZ aP R λap aq bg al am aA=>Tv<|Jc 1 R<|Jz<|Jp<|Jf3 R ?_
 have aM:cb .i64 (c+1)=c+1:=wr1 aI (Jm2 f) aH
 rw[aM]
 have f:=Jm2 f
 cases h
 exact Jz1 λa ha=>⟨k,_,Ja3 _,⟨al,c+1,aW,ap,aq,R,(T4 i N P am).wk R,aA,by omega,by omega,G⟩,(ha.mm R)⟩
 rintro _ bb ⟨ah,m,v,u,rfl,C,V,rfl⟩
 have h:=yI aF
 refine Jp<|Jq<|Jg3 [2,2,1] 2 R<|Ob h λaX aQ h=>?_
 have Y:=F.stp (e.tr C)
 refine Jr3 R C144 (kI (κ:=Mk ah) (Ji3 V.rdc) (Ji3 Y.rdc) aQ) ?_
 rintro _ bh ⟨a4,rfl,ax⟩
 obtain⟨J,q,a6⟩:=Ji ax 5 R
 refine Tv<|Jd ?_
 revert h
 cases a2:aX
 refine JF λh=>Jy R<|Js<|Jp<|Jf3 R<|Jz ?_
 cases h
 exact Jz1 λa ha=>⟨k,_,Ja3 _,⟨(λb=>ren [(4,3)]<|J b),m,v,u,R,(Jy2 ((T4 p e C q).wk R) [(4,3)] R),((V.stp q).map (ren [(4,3)]) R R),Z⟩,(ha.mm R)⟩
 refine JT λh=>Jx R<|Je3 R<|Ju<|Jw<|Ja1<|Jw ?_
 cases h
 obtain rfl:=Option.some.inj Z
 have h:=yL aE
 refine Ja1<|Ja2 (l:=[.tmp 2]) V145 (Jp2 R R) R ?_
 cases h
 exact⟨(λb=>ren [(3,2)]<|J b),t,s,R,((hE.stp<|T6 M D p e C q).map (ren [(3,2)]) R R),((Y.stp q).map (ren [(3,2)]) R R)⟩
end Go.Proofs.YtleekpaohfpooaaGreat
