/- The walks, part 7. By program. -/
import Derived.Test.YtleekpaohfpooaaGreatFns4FW
import Derived.Test.YtleekpaohfpooaaGreatFns5FW
import Derived.Test.YtleekpaohfpooaaGreatFns6FW
set_option linter.unusedVariables false
set_option linter.unusedSimpArgs false
open Go.IntKind renaming wrap → cb
open Sum renaming inr → eg, inl → gs
open Int renaming toNat → n6
namespace Go.Proofs.YtleekpaohfpooaaGreat
open Go Go.Wk Go.Proofs
set_option maxRecDepth 100000
set_option maxHeartbeats 1000000
variable {w:World}{κ:Col}
theorem dC {m s}{p0:(List Clause)}{c1_0:Sig}{n}(f:Rd Clause.rp κ w 0 m s p0) (z:Bc κ w 0 n 28 [vi c1_0.In,vi c1_0.Out]){r:Int}(h:ci p0 c1_0=some r):Ret Tryz.prog 194 [.slice m p0.length s,.func (.func 127) #[] #[.pointer (some ⟨n,0,none⟩)]] w (Pvi κ w r):=by
 unfold ci at h
 refine Jk3 κ F194 R N194 R λhE=>Je3 R<|Jq<|Jg3 [2,2,2] 1 R<|Jn3 R U29 R R<|Jb 1 R ?_
 have A:(p0.length:Int)<=9223372036854775807:=f.len_le
 refine Ob h λq D o=>?_
 clear h
 refine Jo3 [1] (λE L w'=>∃κ',L=E/\Stp [] κ w κ' w'/\q=eg ()) ?_ ?_
 refine Jv<|Jp3 [0,1,7] (λk E L w'=>∃κ' b,L=(8,vi b)::E/\Stp [] κ w κ' w'/\0<=b/\n6 ((p0.length:Int)-b)=k/\cntM (cg p0 c1_0) k b ()=some q) ⟨_,_,⟨κ,0,R,Jj3,(by decide),(by simp),D⟩,(KM R)⟩ ?_
 rintro k _ Y ⟨i,b,rfl,d,B,P,h⟩
 rcases k with _ | k
 have e:=h;obtain⟨I,h⟩:=cn (eg (gs ()):Int⊕((Unit)⊕(Unit)))
 have c:decide (b<(p0.length:Int))=false:=Jo2 (by omega)
 refine Je3 R<|Jq<|Jw2 R c<|Jc1<|Jt<|Jt ?_
 cases h
 have h:=e
 refine Jb1 ?_
 cases h
 exact Jw1 _ ⟨i,R,d.wk R,R⟩<|KM R
 obtain⟨I,h,e⟩:=BI h;unfold cg at h
 have c:decide (b<(p0.length:Int))=true:=Jn2 (by omega)
 refine Je3 R<|Jq<|Jv2 R c<|Js<|Jp<|Jq<|Jv<|Je3 R<|Jg3 [2,2,2,2,1,1] 3 R<|Ob h λJ p h=>Jc3 R f p U29 Z67 ?_
 obtain⟨O,F,C⟩:=((f.stp d)).gSt p
 obtain⟨M,U,N,V,rfl,x,y⟩:=Clause.un F
 refine Jb4 tv R (Jc4 (haE C) I67 Z67 R)<|Ob h λK H h=>WO.callV R R R R R R R R C127 (nJ (κ:=Mk i) (p0:=J) (c0:=c1_0) (Ji3 x) (Ji3 y) ((z.stp d).map (mp [] 0) R R) H) ?_
 rintro _ W ⟨S,rfl,v⟩
 obtain⟨g,j,T⟩:=Ji v 2 R
 refine Tv<|Jd ?_
 revert h
 cases Q:K
 refine JF λh=>Jy R<|Js<|Jz<|Jp<|Jf3 R ?_
 have G:cb .i64 (b+1)=b+1:=wr1 B (Jm2 c) A
 rw[G]
 have c:=Jm2 c
 cases h
 exact Jz1 λa ha=>⟨k,_,Ja3 _,⟨g,b+1,R,(d.tr j).wk R,by omega,by omega,e⟩,(ha.mm R)⟩
 refine JT λh=>Jx R<|Je3 R<|Ju<|Ja1<|Jw<|Jw ?_
 cases h
 obtain rfl:=Option.some.inj e
 have h:=yL o
 refine Ja1<|Jq2<|Jw<|Ja2 (l:=[.tmp 4]) V194 (Jp2 R R) R ?_
 cases h
 exact⟨g,R,(hE.stp<|d.tr j)⟩
 rintro _ X ⟨t,rfl,u,rfl⟩
 have h:=yI o
 refine Jp<|Je3 R<|Ju<|Ja2 (l:=[.tmp 4]) V194 (Jp2 R R) R ?_
 cases h
 exact⟨t,R,(hE.stp u)⟩
theorem dw {a c}{p0:(List Clause)}{c1_0:Sig}{b}(g:Rd Clause.rp κ w 0 a c p0) (i:Bc κ w 0 b 28 [vi c1_0.In,vi c1_0.Out]){r:Bool}(h:cd p0 c1_0=some r):Ret Tryz.prog 126 [.slice a p0.length c,.func (.func 127) #[] #[.pointer (some ⟨b,0,none⟩)]] w (Pvb κ w r):=by
 unfold cd at h
 refine Jk3 κ F126 R N126 R λhE=>Je3 R<|Jg3 [2,2,1,2,2] 2 R<|Ob h λn j h=>Jr3 R C194 (dC (κ:=Mk κ) (c1_0:=c1_0) (Ji3 g) (i.map (mp [] 0) R R) j) ?_
 rintro _ w1 ⟨k,rfl,f⟩
 obtain⟨d,e,m⟩:=Ji f 2 R
 refine Tv<|Jb 2 R<|Ju<|Ja2 (l:=[.tmp 4]) V126 (Jp2 R R) R ?_
 cases h
 exact⟨d,R,(hE.stp e)⟩
theorem l8 {b c}{p0:(List Int)}{p1:Int}(j:Rd (Rp.int .i64) κ w 0 b c p0){r:Bool}(h:fX p0 p1=some r):Ret Tryz.prog 159 [.slice b p0.length c,vi p1] w (Pvb κ w r):=by
 unfold fX at h
 refine Jk3 κ F159 R N159 R λhE=>Je [1,2] R<|Js3 (κ:=κ) 2 R λm w1 d a i=>Tv<|Jb 1 R<|Jg3 [2,2,1,2,2] 1 R<|Jf R (js (first:=[]) (captured:=[.tmp 3]) R R R ⟨_,R⟩)<|Ob h λp k h=>Jr3 R C216 (d7 (κ:=Mk d) (Ji3<|j.stp a) (i.map (mp [] 0) R R) k) ?_
 rintro _ o ⟨k7,rfl,g⟩
 obtain⟨e,f,n⟩:=Ji g 3 R
 refine Tv<|Jb 2 R<|Ju<|Ja2 (l:=[.tmp 4]) V159 (Jp2 R R) R ?_
 cases h
 exact⟨e,R,(hE.stp<|a.tr f)⟩
theorem pq {p0:Sig}{H F I G}{p1:Machine}(z:Rd (Rp.sl (Rp.int .i64)) κ w 0 H F p1.Next) (q:Rd (Rp.sl (Rp.int .i64)) κ w 0 I G p1.Out){r:Bool}(h:gW p0 p1=some r):Ret Tryz.prog 83 [.agg #[vi p0.In,vi p0.Out],.agg #[.slice H p1.Next.length F,.slice I p1.Out.length G]] w (Pvb κ w r):=by
 unfold gW at h
 refine Jk3 κ F83 R N83 R λhE=>Je [1,1,2] R<|Js3 (κ:=κ) 2 R λaP w1 Z n ai=>Tv<|Js3 (κ:=Z) 3 R λaQ aF ac m y=>Tv<|Jb 1 R<|Je [2,1,2,2] R<|Jd3 R U33 R Z31<|Jb3 R I31 (y.ld 0 R R)<|Jn3 R U31 R R<|Jb 1 R<|Jq<|Jg3 [2,2,2,2,2,2,2,2,1,2,2,1,2,2,2] 3 R<|Ob h λQ h ao=>Jf4 [2,3,5] 16 Q ac aF [(3,2),(4,2),(5,2)] [(6,2),(7,2),(8,1),(9,2),(10,2),(11,1),(12,2),(13,2),(14,2)] tv ?_ ?_
 revert h
 cases aT:decide ((p1.Next.length:Int)<1)
 refine JF λh=>Jn 3 R ?_
 cases h
 exact Jg4 tv R
 refine JT λh=>Jn 3 R ?_
 cases h
 exact Jg4 tv R
 rintro _ aD _ ⟨rfl,Y,e⟩
 have h:=ao
 refine Jn 1 R<|Ob h λS h ak=>Jf4 [2,3,5] 25 S Y aD [(7,2),(8,1),(9,2),(10,2),(11,1),(12,2),(13,2),(14,2)] [] tv ?_ ?_
 revert h
 cases aU:Q
 refine JF λh=>Jd3 R U33 R Z31 ?_
 have J:=y.stp e
 refine Jb3 R I31 (J.ld 1 R R)<|Jn3 R U31 R R<|Jd3 R U33 R Z31<|Jb3 R I31 (J.ld 0 R R)<|Jn3 R U31 R R<|Jn 2 R ?_
 cases h
 exact Jg4 tv R
 refine JT λh=>Jn 1 R<|Jz3 R<|Jn 2 R<|Jz3 R<|Jn 3 R ?_
 cases h
 exact Jg4 tv R
 rintro _ X _ ⟨rfl,p,g⟩
 have h:=ak
 refine Jd ?_
 revert h
 cases aV:S
 refine JF λh=>Jy R<|Js<|Jp<|Jq<|Je [2,1,2,2] R<|Jd3 R U33 R Z31 ?_
 have x:=y.stp (e.tr g)
 refine Jb3 R I31 (x.ld 0 R R)<|Jn3 R U31 R R<|Jb 1 R ?_
 have ap:(p1.Next.length:Int)<=9223372036854775807:=z.len_le
 refine Ob h λW aw M=>?_
 clear h
 refine Jx1 (λL w'=>∃κ',L=[]/\Stp [] p X κ' w'/\W=eg ()) ?_ ?_
 refine Jv<|Jp3 [2,3,5,27,28] (λk E L w'=>∃κ' d,L=(29,vi d)::E/\Stp [] p X κ' w'/\0<=d/\n6 ((p1.Next.length:Int)-d)=k/\cntM (fj p0 p1) k d ()=some W) ⟨_,_,⟨p,0,R,Jj3,(by decide),(by simp),aw⟩,(KM R)⟩ ?_
 rintro k _ ba ⟨t,d,rfl,f,aq,aS,h⟩
 rcases k with _ | k
 have s:=h;obtain⟨aC,h⟩:=cn (eg (gs ()):Bool⊕((Unit)⊕(Unit)))
 have o:decide (d<(p1.Next.length:Int))=false:=Jo2 (by omega)
 refine Je3 R<|Jq<|Jw2 R o<|Jc1<|Jt<|Jt ?_
 cases h
 have h:=s
 refine Jb1 ?_
 cases h
 exact Jw1 _ ⟨t,R,f.wk R,R⟩ KN
 obtain⟨aC,h,s⟩:=BI h;unfold fj at h
 have o:decide (d<(p1.Next.length:Int))=true:=Jn2 (by omega)
 refine Je3 R<|Jq<|Jv2 R o<|Js<|Jp<|Jq<|Jv<|Jg3 [2,2,1,2,2] 1 R<|Ob h λaI N h=>Jc3 R z N U31 Z37 ?_
 obtain⟨aM,a6,ah,ar⟩:=(z.stp (T5 n m e g f)).gSl N
 refine Jb3 R I37 ar<|Jb 2 R<|Jq<|Js1 (κ:=t) [0,2,3] none [(0,2),(1,2),(2,0),(3,1),(4,2),(5,2),(6,2),(8,2),(12,2),(13,2),(7,0),(9,2),(10,0),(11,2),(14,2),(15,2),(16,2),(17,2),(18,2),(19,1),(20,2),(21,2),(22,2),(23,2),(25,2),(28,2),(24,0),(26,2),(27,0),(29,0),(30,2),(31,1),(32,2),(33,2)] [] (by kernel_rfl) (by kernel_rfl) λbb i=>Jn 1 R<|Jn3 R U37 R R ?_
 have K:=ai.stp (T5 m e g f i)
 refine Jg R (Jc4 (haC K.cells R) I28 Z28 R)<|Ob h λaJ ay h=>Jr3 R C46 (mZ (κ:=Mk t) (p0:=p0) ay) ?_
 rintro _ aE ⟨a0,rfl,ae⟩
 obtain⟨ab,b,a3⟩:=Ji ae 4 R
 refine⟨(b.cl R),Jn 2 R<|Ob h λT h al=>Jf4 [2,3,5,6,7,27,28,29] 49 T ab aE [(6,2),(8,2),(12,2),(13,2),(7,0),(9,2),(10,0),(11,2),(14,2),(15,2)] [(16,2),(17,2),(18,2),(19,1),(20,2),(21,2),(22,2),(23,2),(25,2),(28,2),(24,0),(26,2),(27,0),(29,0),(30,2),(31,1),(32,2),(33,2)] (b.cl R) ?_ ?_⟩
 revert h
 cases aW:((aI.length:Int) !=aJ)
 refine JF λh=>Jd3 R U33 R Z31<|Jn 2 R<|Jn3 R U37 R R<|Jg R (Jc2 I31 R R<|hvC ((x.stp<|f.tr i).ld 1 R R) R)<|Ob h λbf O h=>Jc3 R q O U31 Z37 ?_
 obtain⟨aN,a7,aR,au⟩:=(q.stp (T6 n m e g f i)).gSl O
 refine Jg R (Jc2 I37 R R<|hvC au R)<|Jn3 R U37 R R<|Jn 2 R ?_
 cases h
 exact Jv1 _ (b.cl R) ⟨R,_,Jj3⟩<|KM R
 refine JT λh=>Jn 4 R<|Ja4 R<|Jn 1 R<|Ja4 R<|Jn 3 R ?_
 cases h
 exact Jv1 _ (b.cl R) ⟨R,_,Jj3⟩<|KM R
 rintro _ aG _ ⟨rfl,A,c⟩
 have h:=al
 refine Jn 1 R<|Ob h λU h am=>Jf4 [2,3,5,6,27,28,29] 55 U A aG [(17,2),(18,2),(19,1),(20,2),(21,2)] [(22,2),(23,2),(25,2),(28,2),(24,0),(26,2),(27,0),(29,0),(30,2),(31,1),(32,2),(33,2)] ((b.tr c).cl R) ?_ ?_
 revert h
 cases aX:T
 refine JF λh=>Jn 2 R<|Ob h λbg az h=>Jr3 R C159 (l8 (κ:=Mk A) (Ji3<|ah.stp<|T3 i b c) az) ?_
 rintro _ bc ⟨a1,rfl,af⟩
 obtain⟨aK,u,a4⟩:=Ji af 6 R
 refine⟨((T3 b c u).cl R),Jn 2 R ?_⟩
 cases h
 exact Jv1 _ ((T3 b c u).cl R) ⟨R,_,u.wk R⟩<|KM R
 refine JT λh=>Jn 2 R<|Jz3 R<|Jn 2 R ?_
 cases h
 exact Jv1 _ ((b.tr c).cl R) ⟨R,_,Jj3⟩<|KM R
 rintro _ aH _ ⟨rfl,B,j⟩
 have h:=am
 refine Jn 1 R<|Ob h λV h an=>Jf4 [2,3,5,27,28,29] 67 V B aH [(23,2),(25,2),(28,2),(24,0),(26,2),(27,0),(29,0),(30,2),(31,1),(32,2),(33,2)] [] ((T3 b c j).cl R) ?_ ?_
 revert h
 cases aY:U
 refine JF λh=>Jd3 R U33 R Z31<|Jn 1 R<|Jd3 R U28 R Z2<|Jg R (Jc2 I31 R R<|hvC ((x.stp<|f.tr i).ld 1 R R) R)<|Ob h λbh P h=>Jc3 R q P U31 Z37 ?_
 obtain⟨aO,a8,aj,av⟩:=(q.stp (T6 n m e g f i)).gSl P
 refine Jg R (Jc2 I37 R R<|hvC av R)<|Jg R (Jc2 I2 R R<|hvC (K.ld 1 R R) R)<|Ob h λ_z64 aB h=>Jf R (uv R R R<|wR aB)<|Ob h λbi aA h=>Jr3 R C159 (l8 (κ:=Mk B) (Ji3<|aj.stp<|T3 b c j) aA) ?_
 rintro _ bd ⟨a2,rfl,ag⟩
 obtain⟨aL,v,a5⟩:=Ji ag 6 R
 refine⟨((T4 b c j v).cl R),Jn 2 R ?_⟩
 cases h
 exact Jv1 _ ((T4 b c j v).cl R) ⟨R,_,v.wk R⟩<|KM R
 refine JT λh=>Jn 3 R<|Ja4 R<|Jn 1 R<|Ja4 R<|Ja4 R<|Jn 1 R<|Jz3 R<|Jn 2 R ?_
 cases h
 exact Jv1 _ ((T3 b c j).cl R) ⟨R,_,Jj3⟩<|KM R
 rintro _ be _ ⟨rfl,C,D⟩
 have h:=an
 refine Jt1<|Jd ?_
 revert h
 cases aZ:V
 refine JF λh=>Jy R<|Js<|Jz<|Jp<|Jf3 R ?_
 have ax:cb .i64 (d+1)=d+1:=wr1 aq (Jm2 o) ap
 rw[ax]
 have o:=Jm2 o
 cases h
 exact Jz1 λa ha=>⟨k,_,Ja3 _,⟨C,d+1,R,(T6 f i b c j D).wk R,by omega,by omega,s⟩,(ha.mm R)⟩
 refine JT λh=>Jx R<|Je3 R<|Ju<|Ja1<|Jw<|Jw ?_
 cases h
 obtain rfl:=Option.some.inj s
 have h:=yL M
 refine Ja1<|Jq2<|Jw<|Ja2 (l:=[.tmp 4]) V83 (Jp2 R R) R ?_
 cases h
 exact⟨C,R,(hE.stp<|T10 n m e g f i b c j D)⟩
 rintro _ a9 ⟨aa,rfl,ad,rfl⟩
 have h:=yI M
 refine Jp<|Je3 R<|Ju<|Ja2 (l:=[.tmp 4]) V83 (Jp2 R R) R ?_
 cases h
 exact⟨aa,R,(hE.stp<|T5 n m e g ad)⟩
 refine JT λh=>Jx R<|Je3 R<|Ju<|Jw<|Ja2 (l:=[.tmp 4]) V83 (Jp2 R R) R ?_
 cases h
 exact⟨p,R,(hE.stp<|T4 n m e g)⟩
theorem np {ag ad ah ae af ab}{p0:watch}{ai aa ar ac}{p1:Pair}{aj}(a3:Rd (Rp.sl (Rp.int .i64)) κ w 0 ag ad p0.next) (a4:Rd (Rp.sl (Rp.int .i64)) κ w 0 ah ae p0.letters) (a5:Rd Pair.rp κ w 0 af ab p0.pairs) (a6:Rd (Rp.int .i64) κ w 0 ai aa p1.Ask) (a7:Rd (Rp.int .i64) κ w 0 ar ac p1.Give) (a9:Bc κ w 0 aj 172 [.slice ag p0.next.length ad,.slice ah p0.letters.length ae,.slice af p0.pairs.length ab]){r:(List Int)}(h:eP p0 p1=some r):Ret Tryz.prog 149 [.pointer (some ⟨aj,0,none⟩),.agg #[.slice ai p1.Ask.length aa,.slice ar p1.Give.length ac]] w (Pvs E6 2 κ w r):=by
 unfold eP at h
 refine Jk3 κ F149 R N149 R λhE=>Je [1,2] R<|Js3 (κ:=κ) 2 R λbL w1 ax p aV=>Tv<|Jb 1 R<|Je [1,2] R<|Jx3 (κ:=ax) (E:=E6) 3 R Y37 a8 R λaL aN b0 X j aY=>Tv<|Jb 1 R<|Jq<|Jq<|Js1 (κ:=X) [0,2] none [(0,2),(1,2),(2,2),(4,2),(5,2),(10,2),(3,0),(6,0),(7,1),(8,1),(9,2)] [] (by kernel_rfl) (by kernel_rfl) λbV f=>Jn 1 R<|Jf R (bY R R)<|Jd3 R U172 R Z31<|Jn 1 R<|Jd3 R U127 R Z37<|Jn 1 R ?_
 have ak:=a9.stp (T3 p j f)
 refine Jg R (Jc2 I31 R R<|hvC (ak.ld 0 R R) R) ?_
 have al:=aV.stp (j.tr f)
 refine Jg R (Jc2 I37 R R<|hvC (al.ld 1 R R) R)<|Ob h λb7 bn h=>?_
 have am:=a3.stp (T3 p j f)
 have O:=(T3 p j f)
 refine Jr3 R C210 (nk (κ:=Mk X) (p0:=p0) (Ji3 am) (Ji3<|a4.stp O) (Ji3<|a5.stp O) (Ji3<|a7.stp O) (ak.map (mp [] 0) R R) bn) ?_
 rintro _ bx ⟨bP,bG,bE,rfl,aP,aT⟩
 obtain⟨ay,e,bt⟩:=Ji aP 4 R
 refine⟨(e.cl R),?_⟩
 obtain⟨az,i,bC⟩:=kB ay bx 6
 refine Ob h λA bo h=>Jr3 R C164 (rC (κ:=λb=>mp [] 1<|az b) (Jl2 (am.stp<|e.tr i) (mp [] 1) R R) (Jl2 (Sl.st bC (aT.mx dV bt R (R:4+2=6)).rdc) (mp [] 1) R R) bo) ?_
 rintro _ av ⟨bQ,bI,bH,rfl,aQ,aU⟩
 obtain⟨M,q,bu,bD⟩:=Jj aQ 7 R
 refine⟨((T3 e i q).cl R),?_⟩
 have Q:=aU.mxz bD bu R (R:7+2=9)
 refine Jn3 R U31 R R<|Jt1<|Jd ?_
 have bd:(A.length:Int)<=9223372036854775807:=Q.len_le
 refine Ob h λaq bj ba=>?_
 clear h
 refine Jo3 [0] (λE L w'=>∃κ',∃K:(List Int),∃F I,L=(5,.slice F K.length I)::E/\Stp [3] M av κ' w'/\Oc E6 2 κ' w' 3 F I K/\aq=eg K) ?_ ?_
 refine Jv<|Jp3 [0,3,19,20] (λk E L w'=>∃κ' c,∃g:(List Int),∃v u,L=(5,.slice v g.length u)::(21,vi c)::E/\Stp [3] M av κ' w'/\Oc E6 2 κ' w' 3 v u g/\0<=c/\n6 ((A.length:Int)-c)=k/\cntM (dM p1 A) k c g=some aq) ⟨_,_,⟨M,0,(([]:List Int):(List Int)),aL,aN,R,Jj3,(aY.stp<|T4 f e i q),(by decide),(by simp),bj⟩,(KM R)⟩ ?_
 rintro k _ aw ⟨C,c,g,v,u,rfl,s,an,bf,bM,h⟩
 rcases k with _ | k
 have U:=h;obtain⟨bv,h⟩:=cn (eg (gs g):(List Int)⊕(((List Int))⊕((List Int))))
 have m:decide (c<(A.length:Int))=false:=Jo2 (by omega)
 refine Je3 R<|Jq<|Jw2 R m<|Jc1<|Jt<|Jt ?_
 cases h
 have h:=U
 refine Jb1 ?_
 cases h
 exact Jw1 _ ⟨C,g,v,u,R,s.wk R,an,R⟩<|KM R
 obtain⟨bv,h,U⟩:=BI h;unfold dM at h
 have m:decide (c<(A.length:Int))=true:=Jn2 (by omega)
 refine Je3 R<|Jq<|Jv2 R m<|Js<|Jp<|Jq<|Jv<|Je [2,1,2] R<|Ob h λB ao h=>Jc3 R Q.rdc ao U31 Z37 ?_
 obtain⟨bK,bU,S,bh⟩:=(Q.stp s).gZ ao
 refine Jb3 R I37 bh<|Jb 1 R<|Jg3 [2,2,2] 1 R<|Jn3 R U37 R R<|Jb 1 R ?_
 have be:(B.length:Int)<=9223372036854775807:=S.len_le
 refine Ob h λau bk bb=>?_
 clear h
 refine Jo3 [0,3,19,20,21] (λE L w'=>∃κ',∃z:(List Int),∃G H,L=(5,.slice G z.length H)::E/\Stp [3] C aw κ' w'/\Oc E6 2 κ' w' 3 G H z/\au=eg z) ?_ ?_
 refine Jv<|Jp3 [0,3,19,20,21,25,26] (λk E L w'=>∃κ' d,∃o:(List Int),∃x y,L=(5,.slice x o.length y)::(27,vi d)::E/\Stp [3] C aw κ' w'/\Oc E6 2 κ' w' 3 x y o/\0<=d/\n6 ((B.length:Int)-d)=k/\cntM (dN p1 B) k d o=some au) ⟨_,_,⟨C,0,g,v,u,R,Jj3,an,(by decide),(by simp),bk⟩,(KM R)⟩ ?_
 rintro k _ b2 ⟨Y,d,o,x,y,rfl,t,T,bg,bN,h⟩
 rcases k with _ | k
 have V:=h;obtain⟨bw,h⟩:=cn (eg (gs o):(List Int)⊕(((List Int))⊕((List Int))))
 have n:decide (d<(B.length:Int))=false:=Jo2 (by omega)
 refine Je3 R<|Jq<|Jw2 R n<|Jc1<|Jt<|Jt ?_
 cases h
 have h:=V
 refine Jb1 ?_
 cases h
 exact Jw1 _ ⟨Y,o,x,y,R,t.wk R,T,R⟩<|KM R
 obtain⟨bw,h,V⟩:=BI h;unfold dN at h
 have n:decide (d<(B.length:Int))=true:=Jn2 (by omega)
 refine Je3 R<|Jq<|Jv2 R n<|Js<|Jp<|Jq<|Jv<|Je [2,1,2] R<|Ob h λbA ap h=>Jc3 R S ap U37 Z2<|Jb3 R I2 ((S.stp t).gInt ap)<|Jb 1 R<|Je [2,1,2,1] R<|Jd3 R U127 R Z37<|Jb3 R I37 ((al.stp<|T5 e i q s t).ld 0 R R)<|Jn 1 R<|Ob h λbB bp h=>Jr3 R C89 (cu (κ:=Mk Y) (Ji3<|a6.stp<|T8 p j f e i q s t) bp) ?_
 rintro _ bz ⟨bR,rfl,aR⟩
 obtain⟨N,P,bT⟩:=Ji aR 10 R
 refine Tv<|Jd<|Ob h λW h bc=>Jo3 [0,3,19,20,21,25,26,27] (λE L w'=>∃κ' D J,L=(5,.slice D W.length J)::E/\Stp [3] N bz κ' w'/\Oc E6 2 κ' w' 3 D J W) ?_ ?_
 revert h
 cases bO:bB
 refine JF λh=>Jy R<|Js ?_
 cases h
 exact Jw1 _ ⟨N,x,y,R,Jj3,(T.stp P)⟩<|KM R
 refine JT λh=>Jx R<|Jh3 [2,2,1,1,2] 2 R<|Jd4 (κ:=N) 12 [bA] R Y37 a8 R λbF bJ b4 aD Z a0=>Tv<|Ob h λb8 bq h=>Jy3 (κ:=aD) (E:=E6) 3 [] R Y37 a8 R (T.stp<|P.tr Z) (Sl.srcP (co _) a0.rdc) bZ bq R λaM aO b5 aE aK a1=>Tv<|Jc 1 R ?_
 cases h
 exact Jw1 _ ⟨aE,aM,aO,R,(Z.tr aK).wk R,a1⟩<|KM R
 rintro _ b3 ⟨aC,D,J,rfl,aJ,aZ⟩
 have h:=bc
 refine Jz<|Jp<|Jf3 R ?_
 have bm:cb .i64 (d+1)=d+1:=wr1 bg (Jm2 n) be
 rw[bm]
 have n:=Jm2 n
 cases h
 exact Jz1 λa ha=>⟨k,_,Ja3 _,⟨aC,d+1,W,D,J,R,(T3 t P aJ).wk R,aZ,by omega,by omega,V⟩,(ha.mm R)⟩
 rintro _ b1 ⟨aB,z,G,H,rfl,aI,aX,rfl⟩
 have h:=yI bb
 refine Jz<|Jp<|Jf3 R ?_
 have bl:cb .i64 (c+1)=c+1:=wr1 bf (Jm2 m) bd
 rw[bl]
 have m:=Jm2 m
 cases h
 exact Jz1 λa ha=>⟨k,_,Ja3 _,⟨aB,c+1,z,G,H,R,(s.tr aI).wk R,aX,by omega,by omega,U⟩,(ha.mm R)⟩
 rintro _ bW ⟨aA,K,F,I,rfl,aH,aW,rfl⟩
 have h:=yI ba
 refine Jp<|Jg3 [2,1] 1 R<|Ob h λb9 br h=>Jr3 R C106 (iS (κ:=λb=>mp [(3,2)] 0<|aA b) (aW.map (mp [(3,2)] 0) R R) br) ?_
 rintro _ b6 ⟨bS,rfl,aS,a2,bi⟩
 obtain⟨aF,aG,bs⟩:=Ji aS 10 R
 refine Tv<|Jd<|Je3 R<|Ju<|Ja2 (l:=[.tmp 4]) V149 (Jp2 R R) R ?_
 cases h
 exact⟨(λb=>ren [(12,2)]<|aF b),F,I,(by simp only[(bi)]),((hE.stp<|T8 p j f e i q aH aG).map (ren [(12,2)]) R R),((a2.mx (bX _) bs R (R:10+2=12)).map (ren [(12,2)]) R R)⟩
theorem nL {J G K H I F}{p0:watch}{M}(am:Rd (Rp.sl (Rp.int .i64)) κ w 0 J G p0.next) (an:Rd (Rp.sl (Rp.int .i64)) κ w 0 K H p0.letters) (y:Rd Pair.rp κ w 0 I F p0.pairs) (ao:Bc κ w 0 M 172 [.slice J p0.next.length G,.slice K p0.letters.length H,.slice I p0.pairs.length F]){r:(List Int)}(h:fo p0=some r):Ret Tryz.prog 74 [.pointer (some ⟨M,0,none⟩)] w (Pvs E6 2 κ w r):=by
 unfold fo at h
 refine Jk3 κ F74 R N74 R λhE=>Je3 R<|Je [1,2] R<|Jx3 (κ:=κ) (E:=E6) 2 R Y37 a8 R λZ aD w1 t i ag=>Tv<|Jb 1 R<|Jq<|Jg3 [2,2,2,1,2,2] 1 R<|Jf R (bY R R)<|Jd3 R U172 R Z69 ?_
 have O:=ao.stp i
 refine Jb3 R I69 (O.ld 2 R R)<|Jn3 R U69 R R<|Jb 1 R ?_
 have au:(p0.pairs.length:Int)<=9223372036854775807:=y.len_le
 refine Ob h λQ ax aq=>?_
 clear h
 refine Jo3 [0] (λE L w'=>∃κ',∃s:(List Int),∃n q,L=(3,.slice n s.length q)::E/\Stp [2,3] t w1 κ' w'/\Oc E6 2 κ' w' 2 n q s/\Q=eg s) ?_ ?_
 refine Jv<|Jp3 [0,10,11] (λk E L w'=>∃κ' b,∃g:(List Int),∃m j,L=(3,.slice m g.length j)::(12,vi b)::E/\Stp [2,3] t w1 κ' w'/\Oc E6 2 κ' w' 2 m j g/\0<=b/\n6 ((p0.pairs.length:Int)-b)=k/\cntM (dS p0) k b g=some Q) ⟨_,_,⟨t,0,(([]:List Int):(List Int)),Z,aD,R,Jj3,ag,(by decide),(by simp),ax⟩,(KM R)⟩ ?_
 rintro k _ aV ⟨B,b,g,m,j,rfl,e,x,av,aP,h⟩
 rcases k with _ | k
 have z:=h;obtain⟨aC,h⟩:=cn (eg (gs g):(List Int)⊕(((List Int))⊕((List Int))))
 have f:decide (b<(p0.pairs.length:Int))=false:=Jo2 (by omega)
 refine Je3 R<|Jq<|Jw2 R f<|Jc1<|Jt<|Jt ?_
 cases h
 have h:=z
 refine Jb1 ?_
 cases h
 exact Jw1 _ ⟨B,g,m,j,R,e.wk R,x,R⟩<|KM R
 obtain⟨aC,h,z⟩:=BI h;unfold dS at h
 have f:decide (b<(p0.pairs.length:Int))=true:=Jn2 (by omega)
 refine Je3 R<|Jq<|Jv2 R f<|Js<|Jp<|Jq<|Jv<|Jg3 [2,2,1,1,2,1] 1 R<|Ob h λaF P h=>Jc3 R y P U69 Z127 ?_
 have N:=y.stp (i.tr e)
 obtain⟨aN,ay,aw⟩:=(N).gSt P
 obtain⟨aH,aT,aI,aU,rfl,ak,al⟩:=Pair.un ay
 refine Jb4 tv R (Jc4 (haE aw) I127 Z127 R)<|Jt3 (κ:=B) 3 R X127 R λaM aW C c ae=>Tv<|Jn 1 R<|Jh4 (κ:=C) 3 R Z127 R ae R λaX d af=>Tv<|Jd<|Jg3 [2,1,1,2,2] 1 R<|Jb4 tv R (Jc4 (haE af.cells) I127 Z127 R)<|Ob h λaG aA h=>Jr3 R C149 (np (κ:=Mk C) (p1:=aF) (p0:=p0) (Ji3<|am.stp<|T4 i e c d) (Ji3<|an.stp<|T4 i e c d) (Ji3<|N.stp<|c.tr d) (Ji3<|ak.stp<|c.tr d) (Ji3<|al.stp<|c.tr d) ((O.stp<|T3 e c d).map (mp [] 0) R R) aA) ?_
 rintro _ aE ⟨aR,ar,aJ,rfl,ac,aO⟩
 obtain⟨u,v,aS⟩:=Ji ac 4 R
 refine Tv<|Jn3 R U37 R R<|Jb 1 R<|Ob h λA h ap=>Jo3 [0,10,11,12] (λE L w'=>∃κ' o p,L=(3,.slice o A.length p)::E/\Stp [2] u aE κ' w'/\Oc E6 2 κ' w' 2 o p A) ?_ ?_
 revert h
 cases aQ:decide (0<(aG.length:Int))
 refine JF λh=>Jy R<|Js ?_
 cases h
 exact Jw1 _ ⟨u,m,j,R,Jj3,(x.stp<|T3 c d v)⟩<|KM R
 refine JT λh=>Jx R<|Jh3 [2,2,1,1,2] 2 R<|Jd4 (κ:=u) 7 [b] R Y37 a8 R λaK aL aZ U D ai=>Tv<|Ob h λa2 aB h=>Jy3 (κ:=U) (E:=E6) 2 [] R Y37 a8 R (x.stp<|T4 c d v D) (Sl.srcP (co _) ai.rdc) bZ aB R λaa ab a0 V Y aj=>Tv<|Jc 1 R ?_
 cases h
 exact Jw1 _ ⟨V,aa,ab,R,(D.tr Y).wk R,aj⟩<|KM R
 rintro _ aY ⟨T,o,p,rfl,X,ah⟩
 have h:=ap
 refine Jz<|Jp<|Jf3 R ?_
 have az:cb .i64 (b+1)=b+1:=wr1 av (Jm2 f) au
 rw[az]
 have f:=Jm2 f
 cases h
 exact Jz1 λa ha=>⟨k,_,Ja3 _,⟨T,b+1,A,o,p,R,(T5 e c d v X).wk R,ah,by omega,by omega,z⟩,(ha.mm R)⟩
 rintro _ a1 ⟨S,s,n,q,rfl,W,ad,rfl⟩
 have h:=yI aq
 refine Jp<|Je3 R<|Ju<|Ja2 (l:=[.tmp 2]) V74 (Jp2 R R) R ?_
 cases h
 exact⟨S,n,q,R,(hE.stp<|i.tr W),ad⟩
theorem m7 {p0:Sig}{p s t q}{p1:Clause}(S:Rd (Rp.int .i64) κ w 0 p s p1.A) (T:Rd (Rp.int .i64) κ w 0 t q p1.B){r:Bool}(h:i7 p0 p1=some r):Ret Tryz.prog 150 [.agg #[vi p0.In,vi p0.Out],.agg #[vi p1.Kind,.slice p p1.A.length s,.slice t p1.B.length q]] w (Pvb κ w r):=by
 unfold i7 at h
 refine Jk3 κ F150 R N150 R λhE=>Je [1,1,2] R<|Js3 (κ:=κ) 2 R λaq w1 A d Q=>Tv<|Js3 (κ:=A) 3 R λar aO C c v=>Tv<|Jb 1 R<|Jq<|Je [1,1,2,2,2,1,1,2,2] R ?_
 have x:=Q.stp c
 refine Jb4 tv R (Jc4 (haE x.cells) I28 Z28 R)<|Ob h λam ad h=>Jr3 R C58 (jb (κ:=Mk C) (p0:=p0) ad) ?_
 rintro _ ag ⟨az,rfl,J⟩
 obtain⟨i,a,aF⟩:=Ji J 4 R
 refine Tv<|Jn 2 R<|Ob h λy h U=>Jf4 [2,3] 14 y i ag [(4,2),(5,1),(6,1),(7,2),(8,2)] [] tv ?_ ?_
 revert h
 cases au:(!am)
 refine JF λh=>Jd3 R U67 R Z2<|Jb3 R I2 ((v.stp a).ld 0 R R)<|Ob h λaS Y h=>Jr3 R C59 (cP (κ:=Mk i) Y) ?_
 rintro _ aL ⟨aA,rfl,K⟩
 obtain⟨an,F,aG⟩:=Ji K 6 R
 refine Tv<|Jn 2 R ?_
 cases h
 exact Jv1 _ tv ⟨R,_,F.wk R⟩<|KM R
 refine JT λh=>Jn 1 R<|Jz3 R<|Jz3 R<|Jn 2 R ?_
 cases h
 exact Jg4 tv R
 rintro _ aM _ ⟨rfl,j,b⟩
 have h:=U
 refine Jd ?_
 revert h
 cases av:y
 refine JF λh=>Jy R<|Js<|Jp<|Je [1,1,2] R<|Jb4 tv R (Jc4 (haE (x.stp<|a.tr b).cells) I28 Z28 R)<|Ob h λaT Z h=>Jr3 R C120 (fC (κ:=Mk j) (p0:=p0) Z) ?_
 rintro _ aN ⟨aB,rfl,M⟩
 obtain⟨B,e,aH⟩:=Ji M 6 R
 refine Tv<|Jb 1 R<|Je [2,1,2,1,2,2,1,2,1,2,2,2,1,1,2,2,1,2,2,2,2,2] R<|Jd3 R U67 R Z37 ?_
 have g:=v.stp (T3 a b e)
 refine Jb3 R I37 (g.ld 1 R R)<|Jn 1 R<|Ob h λak aa h=>Jr3 R C158 (lS (κ:=Mk B) (Ji3<|S.stp<|T5 d c a b e) aa) ?_
 rintro _ ah ⟨aC,rfl,N⟩
 obtain⟨k,f,aI⟩:=Ji N 8 R
 refine Tv<|Jn 1 R<|Ob h λz h V=>Jf4 [3] 26 z k ah [(5,2),(6,1),(7,2),(8,1),(9,2)] [(10,2),(11,2),(12,1),(13,1),(14,2),(15,2),(16,1),(17,2),(18,2),(19,2),(20,2),(21,2)] tv ?_ ?_
 revert h
 cases aw:ak
 refine JF λh=>Jn 1 R<|Jz3 R<|Jn 1 R<|Jz3 R<|Jn 1 R ?_
 cases h
 exact Jg4 tv R
 refine JT λh=>Jd3 R U67 R Z37<|Jb3 R I37 ((g.stp f).ld 2 R R)<|Jn 1 R<|Ob h λaU ab h=>Jr3 R C158 (lS (κ:=Mk k) (Ji3<|T.stp<|T6 d c a b e f) ab) ?_
 rintro _ aP ⟨aD,rfl,O⟩
 obtain⟨ao,G,aJ⟩:=Ji O 10 R
 refine Tv<|Jn 1 R ?_
 cases h
 exact Jv1 _ tv ⟨R,_,G.wk R⟩<|KM R
 rintro _ ai _ ⟨rfl,m,n⟩
 have h:=V
 refine Jn 1 R<|Ob h λaf h W=>Ju1 [(11,2),(12,1),(13,1),(14,2),(15,2),(16,1),(17,2),(18,2),(19,2),(20,2)] [(21,2)] (λL w'=>L=[(37,.bool af)]/\∃κ',Stp [] m ai κ' w') tv ?_ ?_
 revert h
 cases ax:z
 refine JF λh=>Jn 1 R<|Jz3 R<|Jz3 R<|Jn 2 R<|Jz3 R<|Jn 4 R ?_
 cases h
 exact Jg4 tv R
 refine JT λh=>Jd3 R U67 R Z2 ?_
 have u:=g.stp (f.tr n)
 refine Jb3 R I2 (u.ld 0 R R)<|Ob h λal ac h=>Jr3 R C211 (r8 (κ:=Mk m) ac) ?_
 rintro _ aj ⟨aE,rfl,P⟩
 obtain⟨D,o,aK⟩:=Ji P 10 R
 refine Tv<|Jn 1 R<|Ob h λae h X=>Jf4 [27] 36 ae D aj [(15,2),(16,1),(17,2),(18,2),(19,2)] [(20,2)] tv ?_ ?_
 revert h
 cases ay:al
 refine JF λh=>Jd3 R U67 R Z37<|Jb3 R I37 ((u.stp o).ld 2 R R)<|Jn3 R U37 R R<|Jn 2 R ?_
 cases h
 exact Jg4 tv R
 refine JT λh=>Jn 1 R<|Jz3 R<|Jn 3 R ?_
 cases h
 exact Jg4 tv R
 rintro _ aQ _ ⟨rfl,ap,H⟩
 have h:=X
 refine Jn 1 R ?_
 cases h
 exact Jv1 _ tv ⟨R,_,(o.tr H).wk R⟩<|KM R
 rintro _ aR _ ⟨rfl,E,I⟩
 have h:=W
 refine Jb 1 R<|Ju<|Ja2 (l:=[.tmp 4]) V150 (Jp2 R R) R ?_
 cases h
 exact⟨E,R,(hE.stp<|T8 d c a b e f n I)⟩
 refine JT λh=>Jx R<|Je3 R<|Ju<|Jw<|Ja2 (l:=[.tmp 4]) V150 (Jp2 R R) R ?_
 cases h
 exact⟨j,R,(hE.stp<|T4 d c a b)⟩
theorem pV {p0:Sig}{a1 y}{p1:(List Clause)}(p:Rd Clause.rp κ w 0 a1 y p1){r:Bool}(h:fx p0 p1=some r):Ret Tryz.prog 75 [.agg #[vi p0.In,vi p0.Out],.slice a1 p1.length y] w (Pvb κ w r):=by
 unfold fx at h
 refine Jk3 κ F75 R N75 R λhE=>Je [1,2] R<|Js3 (κ:=κ) 2 R λab w1 A j s=>Tv<|Jb 1 R<|Jq<|Je [1,1,2,2,2,2,2,2] R<|Jb4 tv R (Jc4 (haE s.cells) I28 Z28 R)<|Ob h λY T h=>Jr3 R C58 (jb (κ:=Mk A) (p0:=p0) T) ?_
 rintro _ V ⟨ai,rfl,G⟩
 obtain⟨C,f,aj⟩:=Ji G 3 R
 refine Tv<|Jn 2 R<|Ob h λv h J=>Jf4 [1,2] 13 v C V [(4,2),(5,2),(6,2),(7,2)] [] tv ?_ ?_
 revert h
 cases ae:(!Y)
 refine JF λh=>Jn 1 R<|Jn3 R U29 R R<|Jn 2 R ?_
 cases h
 exact Jg4 tv R
 refine JT λh=>Jn 4 R ?_
 cases h
 exact Jg4 tv R
 rintro _ z _ ⟨rfl,g,d⟩
 have h:=J
 refine Jd ?_
 revert h
 cases af:v
 refine JF λh=>Jy R<|Js<|Jp<|Jq<|Je3 R ?_
 have K:(p1.length:Int)<=9223372036854775807:=p.len_le
 refine Ob h λx O t=>?_
 clear h
 refine Jx1 (λL w'=>∃κ',L=[]/\Stp [] g z κ' w'/\x=eg ()) ?_ ?_
 refine Jv<|Jp3 [1,2] (λk E L w'=>∃κ' b,L=(5,vi b)::E/\Stp [] g z κ' w'/\0<=b/\n6 ((p1.length:Int)-b)=k/\cntM (fB p0 p1) k b ()=some x) ⟨_,_,⟨g,0,R,Jj3,(by decide),(by simp),O⟩,(KM R)⟩ ?_
 rintro k _ ao ⟨n,b,rfl,e,M,ad,h⟩
 rcases k with _ | k
 have m:=h;obtain⟨U,h⟩:=cn (eg (gs ()):Bool⊕((Unit)⊕(Unit)))
 have c:decide (b<(p1.length:Int))=false:=Jo2 (by omega)
 refine Jq<|Jg3 [2,2,2,2] 2 R<|Jn3 R U29 R R<|Jb 1 R<|Jw2 R c<|Jc1<|Jt<|Jt ?_
 cases h
 have h:=m
 refine Jb1 ?_
 cases h
 exact Jw1 _ ⟨n,R,e.wk R,R⟩ KN
 obtain⟨U,h,m⟩:=BI h;unfold fB at h
 have c:decide (b<(p1.length:Int))=true:=Jn2 (by omega)
 refine Jq<|Jg3 [2,2,2,2] 2 R<|Jn3 R U29 R R<|Jb 1 R<|Jv2 R c<|Js<|Jp<|Jq<|Jv<|Jq<|Js1 (κ:=n) [0,2] none [(1,2),(2,2),(3,2),(0,0),(4,0),(5,1),(6,2)] [] (by kernel_rfl) (by kernel_rfl) λap i=>Jn 2 R<|Ob h λW u h=>Jc3 R p u U29 Z67<|Jg R (Jc4 (haC (s.stp<|T4 f d e i).cells R) I28 Z28 R) ?_
 obtain⟨ac,P,N⟩:=((p.stp (T5 j f d e i))).gSt u
 obtain⟨Z,al,aa,am,rfl,H,I⟩:=Clause.un P
 refine Jg R (Jc4 (haC N R) I67 Z67 R)<|Ob h λX S h=>Jr3 R C150 (m7 (κ:=Mk n) (p0:=p0) (p1:=W) (Ji3 H) (Ji3 I) S) ?_
 rintro _ aq ⟨ah,rfl,F⟩
 obtain⟨q,o,ak⟩:=Ji F 5 R
 refine⟨(o.cl R),Jn 1 R<|Jt1<|Jd ?_⟩
 revert h
 cases ag:(!X)
 refine JF λh=>Jy R<|Js<|Jz<|Jp<|Jf3 R ?_
 have Q:cb .i64 (b+1)=b+1:=wr1 M (Jm2 c) K
 rw[Q]
 have c:=Jm2 c
 cases h
 exact Jz1 λa ha=>⟨k,_,Ja3 _,⟨q,b+1,R,(T3 e i o).wk R,by omega,by omega,m⟩,(ha.mm R)⟩
 refine JT λh=>Jx R<|Je3 R<|Ju<|Ja1<|Jw<|Jw ?_
 cases h
 obtain rfl:=Option.some.inj m
 have h:=yL t
 refine Ja1<|Jq2<|Jw<|Ja2 (l:=[.tmp 4]) V75 (Jp2 R R) R ?_
 cases h
 exact⟨q,R,(hE.stp<|T6 j f d e i o)⟩
 rintro _ an ⟨B,rfl,D,rfl⟩
 have h:=yI t
 refine Jp<|Je3 R<|Ju<|Ja2 (l:=[.tmp 4]) V75 (Jp2 R R) R ?_
 cases h
 exact⟨B,R,(hE.stp<|T4 j f d D)⟩
 refine JT λh=>Jx R<|Je3 R<|Ju<|Jw<|Ja2 (l:=[.tmp 4]) V75 (Jp2 R R) R ?_
 cases h
 exact⟨g,R,(hE.stp<|T3 j f d)⟩
theorem ms {p0:Sig}{am aj ah al}{p1:Clause}(bu:Rd (Rp.int .i64) κ w 0 am aj p1.A) (bv:Rd (Rp.int .i64) κ w 0 ah al p1.B){r:Det}(h:ju p0 p1=some r):Ret Tryz.prog 122 [.agg #[vi p0.In,vi p0.Out],.agg #[vi p1.Kind,.slice am p1.A.length aj,.slice ah p1.B.length al]] w (λv w'=>∃(κ':Col) (aI:Option Addr) (aK:Nat) (aJ:Option Addr) (aL:Nat),v= .agg #[.slice aI r.Next.length aK,.slice aJ r.Pairs.length aL]/\Ent κ w κ' w'/\Oc (Ep.own E6 2) 37 κ' w' 2 aI aK r.Next/\Oc Pair.ep127 127 κ' w' 3 aJ aL r.Pairs):=by
 unfold ju at h
 refine Jk3 κ F122 R N122 R λhE=>Je [1,1,1] R<|Js3 (κ:=κ) 2 R λbR w1 aU B bl=>Tv<|Js3 (κ:=aU) 3 R λbS cp aW u bs=>Tv<|Jt3 (κ:=aW) 4 R X71 R λbV cv aP i ap=>Tv<|Jd<|Jq<|Je [1,1,1,2] R ?_
 have au:=bl.stp (u.tr i)
 refine Jb4 tv R (Jc4 (haE au.cells) I28 Z28 R) ?_
 have av:=bs.stp i
 refine Jb4 tv R (Jc4 (haE av.cells) I67 Z67 R)<|Ob h λbI bB h=>?_
 have aw:=bu.stp (T3 B u i)
 have ax:=bv.stp (T3 B u i)
 refine Jr3 R C150 (m7 (κ:=Mk aP) (p0:=p0) (p1:=p1) (Ji3 aw) (Ji3 ax) bB) ?_
 rintro _ ck ⟨b2,rfl,a7⟩
 obtain⟨N,g,b7⟩:=Ji a7 5 R
 refine Tv<|Jb 1 R ?_
 revert h
 cases bY:(!bI)
 refine JF λh=>Jy R<|Js<|Jp<|Je [2,1,1,1,2,1,1] R<|Jd3 R U67 R Z2 ?_
 have ay:=av.stp g
 refine Jb3 R I2 (ay.ld 0 R R)<|Ob h λf bC h=>Jr3 R C187 (sa (κ:=Mk N) bC) ?_
 rintro _ aM ⟨b3,ai,ar,an,ak,rfl,a9,bj,bk⟩
 obtain⟨O,q,aF⟩:=Ji a9 7 R
 refine Tv<|Jw3 (κ:=O) (E:=Pair.ep127) 11 [9,10] (parts:=[(0,.tmp 16)]) (cells:=[.slice ai f.Ask.length ar,.slice an f.Give.length ak]) (xs:=([f]:List Pair)) R Y69 cA R (Je4 ⟨[.slice ai f.Ask.length ar],[.slice an f.Give.length ak],Zl O aM [9],Zl O aM [10],R,Zl.sp (l1:=[9]) (l2:=[10]) R,Zl.sr (l1:=[9]) (l2:=[10]),⟨_,_,R,(bj.mx (bX _) aF R (R:7+2=9))⟩,⟨_,_,R,(bk.mx (bX _) aF R (R:7+3=10))⟩⟩) λy z cm aV s bm=>Tv<|Jf R (Ji4 [.slice none 0 0,.slice y ([f]:List Pair).length z] R)<|Jt3 (κ:=aV) 12 R X71 R λao cn A j bn=>Tv<|Jh4 (κ:=A) 12 R Z71 R bn R λaN m bo=>Tv<|Jd<|Jq<|Je3 R<|Ob h λaG bz bw=>?_
 clear h
 refine Jo3 [4,5] (λE L w'=>∃κ',∃M:Int×(List<|List Int),∃C J,L=E/\Stp [12,13,16,17] A aN κ' w'/\Oc (Ep.own E6 2) 37 κ' w' 13 C J M.2/\Bc κ' w' 12 ao 71 [.slice C M.2.length J,.slice y ([f]:List Pair).length z]/\aG=eg M) ?_ ?_
 refine Jv<|Jp3 [2,3,4,5] (λk E L w'=>∃κ',∃c:Int×(List<|List Int),∃H F,L=(6,vi c.1)::E/\Stp [12,13,16,17] A aN κ' w'/\Oc (Ep.own E6 2) 37 κ' w' 13 H F c.2/\Bc κ' w' 12 ao 71 [.slice H c.2.length F,.slice y ([f]:List Pair).length z]/\bU (fG p0 p1) k c=some aG) ⟨_,_,⟨A,((0:Int),(([]:List (List Int)):(List<|List Int))),none,0,R,Jj3,Ow.nil,bo,bz⟩,(KM R)⟩ ?_
 rintro k _ cr ⟨aX,c,H,F,rfl,t,az,aA,h⟩
 rcases k with _ | k
 cases h
 obtain⟨cb,h,aD⟩:=BI h;unfold fG at h
 refine Jq<|Jg3 [2,2,1,1,2] 1 R<|Jd3 R U67 R Z2 ?_
 have aB:=ay.stp (T5 q s j m t)
 refine Jb3 R I2 (aB.ld 0 R R)<|Ob h λbJ bD h=>Jr3 R C188 (p7 (κ:=Mk aX) bD) ?_
 rintro _ cs ⟨b4,rfl,ba⟩
 obtain⟨aa,d,b8⟩:=Ji ba 14 R
 refine Tv<|Jb 1 R ?_
 revert h
 cases b0:decide (c.1<bJ)
 refine JF λh=>Jy R<|Jc1<|Jt<|Jt ?_
 cases h
 have h:=aD
 refine Jb1 ?_
 cases h
 exact Jw1 _ ⟨aa,(c.1,c.2),H,F,R,(t.tr d).wk R,(az.stp d),(aA.stp d),R⟩<|KM R
 refine JT λh=>Jx R<|Js<|Jp<|Jq<|Jv<|Je [1,2] R<|Jx3 (κ:=aa) (E:=E6) 16 R Y37 a8 R λa3 a2 aO P n br=>Tv<|Jb 1 R<|Jq<|Je3 R<|Ob h λaH bA bx=>?_
 clear h
 refine Jo3 [2,3,4,5,6] (λE L w'=>∃κ',∃p:(List Int)×Int,∃D I,L=(7,.slice D p.1.length I)::E/\Stp [16] P aO κ' w'/\Oc E6 2 κ' w' 16 D I p.1/\aH=eg p) ?_ ?_
 refine Jv<|Jp3 [2,3,4,5,6] (λk E L w'=>∃κ',∃e:(List Int)×Int,∃K G,L=(7,.slice K e.1.length G)::(8,vi e.2)::E/\Stp [16] P aO κ' w'/\Oc E6 2 κ' w' 16 K G e.1/\bU (fH p0 p1 c) k e=some aH) ⟨_,_,⟨P,((([]:List Int):(List Int)),(0:Int)),a3,a2,R,Jj3,br,bA⟩,(KM R)⟩ ?_
 rintro k _ cu ⟨aZ,e,K,G,rfl,x,aC,h⟩
 rcases k with _ | k
 cases h
 obtain⟨cc,h,aE⟩:=BI h;unfold fH at h
 refine Jq<|Jg3 [2,1,1,2] 1 R<|Jb4 tv R (Jc4 (haE (au.stp<|T9 g q s j m t d n x).cells) I28 Z28 R)<|Ob h λbK bE h=>Jr3 R C120 (fC (κ:=Mk aZ) (p0:=p0) bE) ?_
 rintro _ cw ⟨b5,rfl,bb⟩
 obtain⟨ab,o,b9⟩:=Ji bb 17 R
 refine Tv<|Jb 1 R ?_
 revert h
 cases bW:decide (e.2<bK)
 refine JF λh=>Jy R<|Jc1<|Jt<|Jt ?_
 cases h
 have h:=aE
 refine Jb1 ?_
 cases h
 exact Jw1 _ ⟨ab,(e.1,e.2),K,G,R,(x.tr o).wk R,(aC.stp o),R⟩<|KM R
 have ac:=(T10 g q s j m t d n x o)
 refine JT λh=>Jx R<|Js<|Jp<|Jq<|Jv<|Jh3 [2,1,2,2,1,1,1,2] 1 R<|Jb4 tv R (Jc4 (haE (aB.stp<|T4 d n x o).cells) I67 Z67 R)<|Jn 2 R<|Ob h λbL bF h=>Jr3 R C189 (r9 (κ:=Mk ab) (p0:=p1) (Ji3<|aw.stp ac) (Ji3<|ax.stp ac) bF) ?_
 rintro _ cd ⟨b1,rfl,a6⟩
 obtain⟨aQ,ad,b6⟩:=Ji a6 19 R
 refine Tv<|Jd4 (κ:=aQ) 21 [bL] R Y37 a8 R λbN bQ ce aR ae bc=>Tv<|Ob h λbM bG h=>Jy3 (κ:=aR) (E:=E6) 16 [] R Y37 a8 R (aC.stp<|T3 o ad ae) (Sl.srcP (co _) bc.rdc) bZ bG R λa4 a5 cf aS a0 bd=>Tv<|Jc 1 R<|Jz<|Jp<|Jf3 R ?_
 cases h
 exact Jz1 λa ha=>⟨k,_,Ja3 _,⟨aS,(bM,((IntKind.i64.wrap<|e.2+1):Int)),a4,a5,R,(T5 x o ad ae a0).wk R,bd,aE⟩,(ha.mm R)⟩
 rintro _ ct ⟨aY,p,D,I,rfl,U,bt,rfl⟩
 have h:=yI bx
 refine Jp<|Ja [2,1,2,1,1,2,1] R<|Jd3 R U71 R Z31 ?_
 have aq:=aA.stp (T3 d n U)
 refine Jb3 R I31 (aq.ld 0 R R)<|Jn 1 R<|Jw3 (κ:=aY) (E:=(Ep.own E6 2)) 17 [16] (parts:=[(0,.tmp 42)]) (cells:=[.slice D p.1.length I]) (xs:=([p.1]:List (List Int))) R Y31 bT R (Je4 ⟨_,_,R,bt⟩) λbO bP cg aT Q be=>Tv<|Ob h λX bH h=>Jy3 (κ:=aT) (E:=(Ep.own E6 2)) 13 [17] R Y31 bT R (az.stp<|T4 d n U Q) be.src (cZ R) bH R λW V ch Y af bf=>Tv<|Jd3 R U71 R Z31<|Ju3 (κ:=Y) 12 (off:=0) (vc:=[.slice W X.length V]) (cs':=[.slice W X.length V,.slice y ([f]:List Pair).length z]) R Z31 R (aq.stp<|Q.tr af) R λci ag bg=>Tv<|Jo<|Jz<|Jp<|Jf3 R ?_
 cases h
 exact Jz1 λa ha=>⟨k,_,Ja3 _,⟨Y,(((IntKind.i64.wrap<|c.1+1):Int),X),W,V,R,(T7 t d n U Q af ag).wk R,(bf.stp ag),bg,aD⟩,(ha.mm R)⟩
 rintro _ cq ⟨Z,M,C,J,rfl,T,bp,bq,rfl⟩
 have h:=yI bw
 refine Jp<|Je [1,1] R<|Jb4 tv R (Jc4 (haE bq.cells) I71 Z71 R)<|Jh4 (κ:=Z) 4 R Z71 R (ap.stp<|T6 g q s j m T) R λcj S bh=>Tv<|Jd<|Ju<|Ja2 (l:=[.cell 4 71]) V122 (ca R bh I71 Z71 R R) R ?_
 cases h
 exact⟨(λb=>ren [(13,2),(11,3)]<|Z b),C,J,y,z,R,((hE.stp<|T10 B u i g q s j m T S).map (ren [(13,2),(11,3)]) R R),((bp.stp S).map (ren [(13,2),(11,3)]) R R),((bm.stp<|T4 j m T S).map (ren [(13,2),(11,3)]) R R)⟩
 refine JT λh=>Jx R<|Je [2,1] R<|Jf R (Ji4 [.slice none 0 0,.slice none 0 0] R)<|Jh4 (κ:=N) 4 R Z71 R (ap.stp g) R λcl a1 bi=>Tv<|Jd<|Ju<|Jw<|Ja2 (l:=[.cell 4 71]) V122 (ca R bi I71 Z71 R R) R ?_
 cases h
 exact⟨N,none,0,none,0,R,(hE.stp<|T5 B u i g a1),Ow.nil,Ow.nil⟩
theorem pZ {c d}{p0:(List Int)}{p1:Int}(k:Rd (Rp.int .i64) κ w 0 c d p0){r:Bool}(h:mP p0 p1=some r):Ret Tryz.prog 80 [.slice c p0.length d,vi p1] w (Pvb κ w r):=by
 unfold mP at h
 refine Jk3 κ F80 R N80 R λhE=>Je3 R<|Jg3 [2,1,2,2,2,1,2,2] 1 R<|Ob h λq o h=>Jr3 R C59 (cP (κ:=Mk κ) o) ?_
 rintro _ w1 ⟨v,rfl,j⟩
 obtain⟨a,b,y⟩:=Ji j 2 R
 refine Tv<|Jn 1 R<|Ob h λp h m=>Jf4 [4] 11 p a w1 [(3,2),(4,2),(5,1),(6,2)] [(7,2)] tv ?_ ?_
 revert h
 cases t:q
 refine JF λh=>Jn 2 R<|Jz3 R<|Jn 1 R ?_
 cases h
 exact Jg4 tv R
 refine JT λh=>Jn 2 R<|Ob h λB n h=>Jr3 R C158 (lS (κ:=Mk a) (Ji3<|k.stp b) n) ?_
 rintro _ z ⟨u,rfl,i⟩
 obtain⟨s,f,x⟩:=Ji i 4 R
 refine Tv<|Jn 1 R ?_
 cases h
 exact Jv1 _ tv ⟨R,_,f.wk R⟩<|KM R
 rintro _ A _ ⟨rfl,e,g⟩
 have h:=m
 refine Jb 1 R<|Ju<|Ja2 (l:=[.tmp 4]) V80 (Jp2 R R) R ?_
 cases h
 exact⟨e,R,(hE.stp<|b.tr g)⟩
theorem n7 {u C}{p0:(List Pair)}{p1:Int}(n:Rd Pair.rp κ w 0 u C p0){r:Bool}(h:jT p0 p1=some r):Ret Tryz.prog 133 [.slice u p0.length C,vi p1] w (Pvb κ w r):=by
 unfold jT at h
 refine Jk3 κ F133 R N133 R λhE=>Je3 R<|Jq<|Jg3 [2,1,2,2,2,2,2,2] 1 R<|Ob h λag ac h=>Jr3 R C59 (cP (κ:=Mk κ) ac) ?_
 rintro _ w1 ⟨ax,rfl,K⟩
 obtain⟨G,g,aC⟩:=Ji K 2 R
 refine Tv<|Jn 2 R<|Ob h λz h Q=>Jf4 [0,1] 13 z G w1 [(4,2),(5,2),(6,2),(7,2)] [] tv ?_ ?_
 revert h
 cases aw:(!ag)
 refine JF λh=>Jn 1 R<|Jn3 R U69 R R<|Jn 2 R ?_
 cases h
 exact Jg4 tv R
 refine JT λh=>Jn 4 R ?_
 cases h
 exact Jg4 tv R
 rintro _ D _ ⟨rfl,d,e⟩
 have h:=Q
 refine Jd ?_
 revert h
 cases ar:z
 refine JF λh=>Jy R<|Js<|Jp<|Jq<|Je3 R ?_
 have S:(p0.length:Int)<=9223372036854775807:=n.len_le
 refine Ob h λB W v=>?_
 clear h
 refine Jx1 (λL w'=>∃κ',L=[]/\Stp [] d D κ' w'/\B=eg ()) ?_ ?_
 refine Jv<|Jp3 [0,1] (λk E L w'=>∃κ' b,L=(5,vi b)::E/\Stp [] d D κ' w'/\0<=b/\n6 ((p0.length:Int)-b)=k/\cntM (iB p0 p1) k b ()=some B) ⟨_,_,⟨d,0,R,Jj3,(by decide),(by simp),W⟩,(KM R)⟩ ?_
 rintro k _ aI ⟨p,b,rfl,f,T,aq,h⟩
 rcases k with _ | k
 have i:=h;obtain⟨ad,h⟩:=cn (eg (gs ()):Bool⊕((Unit)⊕(Unit)))
 have c:decide (b<(p0.length:Int))=false:=Jo2 (by omega)
 refine Jq<|Jg3 [2,2,2,2] 2 R<|Jn3 R U69 R R<|Jb 1 R<|Jw2 R c<|Jc1<|Jt<|Jt ?_
 cases h
 have h:=i
 refine Jb1 ?_
 cases h
 exact Jw1 _ ⟨p,R,f.wk R,R⟩ KN
 obtain⟨ad,h,i⟩:=BI h;unfold iB at h
 have c:decide (b<(p0.length:Int))=true:=Jn2 (by omega)
 refine Jq<|Jg3 [2,2,2,2] 2 R<|Jn3 R U69 R R<|Jb 1 R<|Jv2 R c<|Js<|Jp<|Jq<|Jv<|Jg3 [2,2,2,2,1,2,1,2,2,2,2,2,2,1,2,1,2,2] 2 R<|Ob h λaL x h=>Jc3 R n x U69 Z127<|Jd3 R U127 R Z37 ?_
 have m:=n.stp (T3 g e f)
 obtain⟨am,X,U⟩:=(m).gSt x
 obtain⟨ai,aD,aj,aE,rfl,N,ao⟩:=Pair.un X
 refine Jb3 R I37 (λw' o=>U w' o 0 _ R)<|Jn 1 R<|Ob h λaf aa h=>Jr3 R C80 (pZ (κ:=Mk p) (Ji3 N) aa) ?_
 rintro _ ae ⟨ay,rfl,J⟩
 obtain⟨q,j,aA⟩:=Ji J 4 R
 refine Tv<|Jn 2 R<|Ob h λA h P=>Jf4 [0,1,5] 37 A q ae [(9,2),(10,2),(11,2),(12,2),(13,1),(14,2),(15,1),(16,2),(17,2)] [] tv ?_ ?_
 revert h
 cases au:(!af)
 refine JF λh=>Jn 2 R<|Ob h λaM y h=>Jc3 R m y U69 Z127<|Jd3 R U127 R Z37 ?_
 obtain⟨an,Y,V⟩:=((m.stp j)).gSt y
 obtain⟨ak,aF,al,aG,rfl,ap,O⟩:=Pair.un Y
 refine Jb3 R I37 (λw' o=>V w' o 1 _ R)<|Jn 1 R<|Ob h λaN ab h=>Jr3 R C80 (pZ (κ:=Mk q) (Ji3 O) ab) ?_
 rintro _ aJ ⟨az,rfl,M⟩
 obtain⟨ah,I,aB⟩:=Ji M 6 R
 refine Tv<|Jn 2 R ?_
 cases h
 exact Jv1 _ tv ⟨R,_,I.wk R⟩<|KM R
 refine JT λh=>Jn 4 R<|Jz3 R<|Jn 1 R<|Jz3 R<|Jn 2 R ?_
 cases h
 exact Jg4 tv R
 rintro _ aK _ ⟨rfl,s,t⟩
 have h:=P
 refine Jd ?_
 revert h
 cases av:A
 refine JF λh=>Jy R<|Js<|Jz<|Jp<|Jf3 R ?_
 have Z:cb .i64 (b+1)=b+1:=wr1 T (Jm2 c) S
 rw[Z]
 have c:=Jm2 c
 cases h
 exact Jz1 λa ha=>⟨k,_,Ja3 _,⟨s,b+1,R,(T3 f j t).wk R,by omega,by omega,i⟩,(ha.mm R)⟩
 refine JT λh=>Jx R<|Je3 R<|Ju<|Ja1<|Jw<|Jw ?_
 cases h
 obtain rfl:=Option.some.inj i
 have h:=yL v
 refine Ja1<|Jq2<|Jw<|Ja2 (l:=[.tmp 4]) V133 (Jp2 R R) R ?_
 cases h
 exact⟨s,R,(hE.stp<|T5 g e f j t)⟩
 rintro _ aH ⟨F,rfl,H,rfl⟩
 have h:=yI v
 refine Jp<|Je3 R<|Ju<|Ja2 (l:=[.tmp 4]) V133 (Jp2 R R) R ?_
 cases h
 exact⟨F,R,(hE.stp<|T3 g e H)⟩
 refine JT λh=>Jx R<|Je3 R<|Ju<|Jw<|Ja2 (l:=[.tmp 4]) V133 (Jp2 R R) R ?_
 cases h
 exact⟨d,R,(hE.stp<|g.tr e)⟩
theorem qw {p0:Sig}{C F B D}{p1:Det}{p2:Int}{x:Int}(J:Rd (Rp.sl (Rp.int .i64)) κ w 0 C F p1.Next) (aB:Rd Pair.rp κ w 0 B D p1.Pairs){r:(List Int)}(h:ko p0 p1 p2 x=some r):Ret Tryz.prog 130 [.agg #[vi p0.In,vi p0.Out],.agg #[.slice C p1.Next.length F,.slice B p1.Pairs.length D],vi p2,vi x] w (λv w'=>∃(κ':Col) (P:Option Addr) (Q:Nat),v= .slice P r.length Q/\Ent κ w κ' w'/\Rd (Rp.int .i64) κ' w' 0 P Q r):=by
 unfold ko at h
 refine Jk3 κ F130 R N130 R λhE=>Je [1,1,2] R<|Js3 (κ:=κ) 2 R λaz w1 T z aj=>Tv<|Js3 (κ:=T) 3 R λaA aQ Y u al=>Tv<|Jb 1 R<|Je [1,2] R<|Jx3 (κ:=Y) (E:=E6) 4 R Y37 a8 R λac aa y S g ah=>Tv<|Jb 1 R<|Jq<|Je3 R<|Ob h λO ao am=>?_
 clear h
 obtain⟨s,i,aw⟩:=kB S y 4
 refine Jx1 (λL w'=>∃κ',∃q:(List Int)×Int,∃n p,L=[(9,.slice n q.1.length p)]/\Stp [] s y κ' w'/\Rd (Rp.int .i64) κ' w' 0 n p q.1/\O=eg q) ?_ ?_
 refine Jv<|Jp3 [2,3,4,5] (λk E L w'=>∃κ',∃c:(List Int)×Int,∃o m,L=(9,.slice o c.1.length m)::(10,vi c.2)::E/\Stp [] s y κ' w'/\Rd (Rp.int .i64) κ' w' 0 o m c.1/\bU (gB p0 p1 p2 x) k c=some O) ⟨_,_,⟨s,((([]:List Int):(List Int)),(0:Int)),ac,aa,R,Jj3,(Sl.st aw ah.rdc),ao⟩,(KM R)⟩ ?_
 rintro k _ aM ⟨V,c,o,m,rfl,e,G,h⟩
 rcases k with _ | k
 cases h
 obtain⟨aJ,h,K⟩:=BI h;unfold gB at h
 refine Jq<|Jg3 [2,2,1,1,2] 1 R<|Jd3 R U28 R Z2 ?_
 have H:=aj.stp (T4 u g i e)
 refine Jb3 R I2 (H.ld 1 R R)<|Ob h λau ap h=>Jr3 R C62 (dh (κ:=Mk V) ap) ?_
 rintro _ aN ⟨aD,rfl,ae⟩
 obtain⟨t,d,aG⟩:=Ji ae 5 R
 refine Tv<|Jb 1 R ?_
 revert h
 cases aC:decide (c.2<au)
 refine JF λh=>Jy R<|Jc1<|Jt<|Jt ?_
 cases h
 have h:=K
 refine Jb1 ?_
 cases h
 exact Jw1 _ ⟨t,(c.1,c.2),o,m,R,(e.tr d).wk R,(G.stp d),R⟩<|KM R
 refine JT λh=>Jx R<|Js<|Jp<|Jq<|Jv<|Js1 (κ:=t) [0,2,3] none [(0,2),(1,2),(3,2),(7,2),(8,2),(2,0),(4,2),(5,0),(6,0),(9,1),(10,2),(11,0),(12,1),(13,2)] [] (by kernel_rfl) (by kernel_rfl) λaO f=>Jn 1 R<|Jd3 R U71 R Z31<|Jn 3 R<|Jg R (Jc2 I31 R R<|hvC ((al.stp<|T5 g i e d f).ld 0 R R) R)<|Ob h λaS M h=>Jc3 R J M U31 Z37 ?_
 obtain⟨ay,aK,I,an⟩:=(J.stp (T7 z u g i e d f)).gSl M
 refine Jg R (Jc2 I37 R R<|hvC an R)<|Jg R (Jc4 (haC (H.stp<|d.tr f).cells R) I28 Z28 R)<|Ob h λaT aq h=>Jr3 R C94 (m9 (κ:=Mk t) (p0:=p0) aq) ?_
 rintro _ aP ⟨aE,rfl,af⟩
 obtain⟨W,j,aH⟩:=Ji af 7 R
 refine⟨(j.cl R),Ob h λaU N h=>Jc3 R I N U37 Z2<|Jg R (Jc2 I2 R R<|hvC (I.gInt N) R)<|Ob h λav ar h=>Jr3 R C96 (tw (κ:=λb=>mp [] 1<|W b) (Jl2 (G.stp<|T3 d f j) (mp [] 1) R R) ar) ?_⟩
 rintro _ aR ⟨aF,ad,ab,rfl,ag,ak⟩
 obtain⟨X,A,aI,ax⟩:=Jj ag 9 R
 refine⟨((j.tr A).cl R),Jn 1 R<|Jt1<|Jo<|Jz<|Jp<|Jf3 R ?_⟩
 cases h
 exact Jz1 λa ha=>⟨k,_,Ja3 _,⟨X,(av,((IntKind.i64.wrap<|c.2+1):Int)),ad,ab,R,(T5 e d f j A).wk R,(ak.mx ax),K⟩,(ha.mm R)⟩
 rintro _ aL ⟨U,q,n,p,rfl,Z,ai,rfl⟩
 have h:=yI am
 refine Jp<|Je3 R<|Ju<|Ja2 (l:=[.tmp 8]) V130 (Jp2 R R) R ?_
 cases h
 exact⟨U,n,p,R,(hE.stp<|T5 z u g i Z),ai⟩
theorem nY {B C z A}{p0:Arena}(t:Rd (Rp.int .i64) κ w 0 B C p0.Owner) (j:Rd (Rp.sl (Rp.int .i64)) κ w 0 z A p0.Next){r:Bool}(h:jS p0=some r):Ret Tryz.prog 132 [.agg #[.slice B p0.Owner.length C,.slice z p0.Next.length A]] w (Pvb κ w r):=by
 unfold jS at h
 refine Jk3 κ F132 R N132 R λhE=>Je [1,2] R<|Js3 (κ:=κ) 2 R λaE w1 S g q=>Tv<|Jb 1 R<|Je [2,1,2,2] R<|Jd3 R U75 R Z37<|Jb3 R I37 (q.ld 0 R R)<|Jn3 R U37 R R<|Jb 1 R<|Jq<|Jg3 [2,1,2,2,2,1,2,2,1,2,2,2] 1 R<|Ob h λaz aq h=>Jr3 R C59 (cP (κ:=Mk S) aq) ?_
 rintro _ aw ⟨aP,rfl,ab⟩
 obtain⟨W,b,aR⟩:=Ji ab 3 R
 refine Tv<|Jn 2 R<|Ob h λK h ad=>Jf4 [1,3] 19 K W aw [(4,2),(5,1),(6,2),(7,2),(8,1),(9,2),(10,2),(11,2)] [] tv ?_ ?_
 revert h
 cases aI:(!az)
 refine JF λh=>Jd3 R U75 R Z31 ?_
 have D:=q.stp b
 refine Jb3 R I31 (D.ld 1 R R)<|Jn3 R U31 R R<|Jd3 R U75 R Z37<|Jb3 R I37 (D.ld 0 R R)<|Jn3 R U37 R R<|Jn 2 R ?_
 cases h
 exact Jg4 tv R
 refine JT λh=>Jn 1 R<|Jz3 R<|Jn 2 R<|Jz3 R<|Jn 3 R ?_
 cases h
 exact Jg4 tv R
 rintro _ Q _ ⟨rfl,o,d⟩
 have h:=ad
 refine Jd ?_
 revert h
 cases aJ:K
 refine JF λh=>Jy R<|Js<|Jp<|Jq<|Je3 R ?_
 have ah:(p0.Owner.length:Int)<=9223372036854775807:=t.len_le
 refine Ob h λP am F=>?_
 clear h
 refine Jx1 (λL w'=>∃κ',L=[]/\Stp [] o Q κ' w'/\P=eg ()) ?_ ?_
 refine Jv<|Jp3 [1,3] (λk E L w'=>∃κ' c,L=(4,vi c)::E/\Stp [] o Q κ' w'/\0<=c/\n6 ((p0.Owner.length:Int)-c)=k/\cntM (iy p0) k c ()=some P) ⟨_,_,⟨o,0,R,Jj3,(by decide),(by simp),am⟩,(KM R)⟩ ?_
 rintro k _ aY ⟨u,c,rfl,e,ai,aH,h⟩
 rcases k with _ | k
 have s:=h;obtain⟨ar,h⟩:=cn (eg (gs ()):Bool⊕((Unit)⊕(Unit)))
 have m:decide (c<(p0.Owner.length:Int))=false:=Jo2 (by omega)
 refine Jq<|Jg3 [2,2,1,2,2] 1 R<|Jd3 R U75 R Z37<|Jb3 R I37 ((q.stp<|T3 b d e).ld 0 R R)<|Jn3 R U37 R R<|Jb 1 R<|Jw2 R m<|Jc1<|Jt<|Jt ?_
 cases h
 have h:=s
 refine Jb1 ?_
 cases h
 exact Jw1 _ ⟨u,R,e.wk R,R⟩ KN
 obtain⟨ar,h,s⟩:=BI h;unfold iy at h
 have m:decide (c<(p0.Owner.length:Int))=true:=Jn2 (by omega)
 refine Jq<|Jg3 [2,2,1,2,2] 1 R<|Jd3 R U75 R Z37 ?_
 have n:=q.stp (T3 b d e)
 refine Jb3 R I37 (n.ld 0 R R)<|Jn3 R U37 R R<|Jb 1 R<|Jv2 R m<|Js<|Jp<|Jq<|Jv<|Je [2,1,2,2,1,1,2,2,2,1,2,2,1,2,2,2,2,2,1,2,2,1,2,2,2,2,2,1,2,2,1,2,1,2,2] R<|Jd3 R U75 R Z37<|Jb3 R I37 (n.ld 0 R R)<|Jn 1 R<|Ob h λa1 G h=>Jc3 R t G U37 Z2<|Jb3 R I2 ((t.stp<|T4 g b d e).gInt G)<|Ob h λay ao h=>Jr3 R C59 (cP (κ:=Mk u) ao) ?_
 rintro _ au ⟨aO,rfl,Z⟩
 obtain⟨U,f,aS⟩:=Ji Z 5 R
 refine Tv<|Jn 2 R<|Ob h λM h ae=>Jf4 [1,3,4] 42 M U au [(8,2),(9,1),(10,2),(11,2),(12,1),(13,2),(14,2),(15,2)] [(16,2),(17,2),(18,1),(19,2),(20,2),(21,1),(22,2),(23,2),(24,2),(25,2),(26,2),(27,1),(28,2),(29,2),(30,1),(31,2),(32,1),(33,2),(34,2)] tv ?_ ?_
 revert h
 cases aK:(!ay)
 refine JF λh=>Jd3 R U75 R Z31<|Jb3 R I31 ((n.stp f).ld 1 R R)<|Jn 1 R<|Ob h λa2 H h=>Jc3 R j H U31 Z37 ?_
 obtain⟨aB,aU,aF,aj⟩:=(j.stp (T5 g b d e f)).gSl H
 refine Jb3 R I37 aj<|Jn3 R U37 R R<|Jn 2 R ?_
 cases h
 exact Jg4 tv R
 refine JT λh=>Jn 1 R<|Jz3 R<|Jn 2 R<|Jz3 R<|Jn 3 R ?_
 cases h
 exact Jg4 tv R
 rintro _ av _ ⟨rfl,V,i⟩
 have h:=ae
 refine Jn 1 R<|Ob h λN h af=>Jf4 [1,3,4] 51 N V av [(17,2),(18,1),(19,2),(20,2),(21,1),(22,2),(23,2),(24,2)] [(25,2),(26,2),(27,1),(28,2),(29,2),(30,1),(31,2),(32,1),(33,2),(34,2)] tv ?_ ?_
 revert h
 cases aL:M
 refine JF λh=>Jd3 R U75 R Z31<|Jb3 R I31 ((n.stp<|f.tr i).ld 1 R R)<|Jn 1 R<|Ob h λa3 I h=>Jc3 R j I U31 Z37 ?_
 obtain⟨aC,aV,aG,ak⟩:=(j.stp (T6 g b d e f i)).gSl I
 refine Jb3 R I37 ak<|Jn3 R U37 R R<|Jn 2 R ?_
 cases h
 exact Jg4 tv R
 refine JT λh=>Jn 1 R<|Jz3 R<|Jn 2 R<|Jz3 R<|Jn 3 R ?_
 cases h
 exact Jg4 tv R
 rintro _ ax _ ⟨rfl,v,p⟩
 have h:=af
 refine Jn 1 R<|Ob h λO h ag=>Jf4 [1,3,4] 61 O v ax [(26,2),(27,1),(28,2),(29,2),(30,1),(31,2),(32,1),(33,2),(34,2)] [] tv ?_ ?_
 revert h
 cases aM:N
 refine JF λh=>Jd3 R U75 R Z31<|Jb3 R I31 ((n.stp<|T3 f i p).ld 1 R R)<|Jn 1 R<|Ob h λa4 J h=>Jc3 R j J U31 Z37 ?_
 obtain⟨aD,aW,ac,al⟩:=(j.stp (T7 g b d e f i p)).gSl J
 refine Jb3 R I37 al<|Jn 1 R<|Ob h λa5 ap h=>Jr3 R C158 (lS (κ:=Mk v) (Ji3 ac) ap) ?_
 rintro _ aZ ⟨aQ,rfl,aa⟩
 obtain⟨aA,Y,aT⟩:=Ji aa 7 R
 refine Tv<|Jn 2 R ?_
 cases h
 exact Jv1 _ tv ⟨R,_,Y.wk R⟩<|KM R
 refine JT λh=>Jn 1 R<|Jz3 R<|Jn 2 R<|Jz3 R<|Jn 1 R<|Jz3 R<|Jn 2 R ?_
 cases h
 exact Jg4 tv R
 rintro _ a0 _ ⟨rfl,x,y⟩
 have h:=ag
 refine Jd ?_
 revert h
 cases aN:O
 refine JF λh=>Jy R<|Js<|Jz<|Jp<|Jf3 R ?_
 have an:cb .i64 (c+1)=c+1:=wr1 ai (Jm2 m) ah
 rw[an]
 have m:=Jm2 m
 cases h
 exact Jz1 λa ha=>⟨k,_,Ja3 _,⟨x,c+1,R,(T5 e f i p y).wk R,by omega,by omega,s⟩,(ha.mm R)⟩
 refine JT λh=>Jx R<|Je3 R<|Ju<|Ja1<|Jw<|Jw ?_
 cases h
 obtain rfl:=Option.some.inj s
 have h:=yL F
 refine Ja1<|Jq2<|Jw<|Ja2 (l:=[.tmp 2]) V132 (Jp2 R R) R ?_
 cases h
 exact⟨x,R,(hE.stp<|T8 g b d e f i p y)⟩
 rintro _ aX ⟨T,rfl,X,rfl⟩
 have h:=yI F
 refine Jp<|Je3 R<|Ju<|Ja2 (l:=[.tmp 2]) V132 (Jp2 R R) R ?_
 cases h
 exact⟨T,R,(hE.stp<|T4 g b d X)⟩
 refine JT λh=>Jx R<|Je3 R<|Ju<|Jw<|Ja2 (l:=[.tmp 2]) V132 (Jp2 R R) R ?_
 cases h
 exact⟨o,R,(hE.stp<|T3 g b d)⟩
theorem nf {u v t x y s}{p0:Parity}(O:Rd (Rp.int .i64) κ w 0 u v p0.Arena.Owner) (P:Rd (Rp.sl (Rp.int .i64)) κ w 0 t x p0.Arena.Next) (n:Rd (Rp.int .i64) κ w 0 y s p0.Prio){r:Bool}(h:ja p0=some r):Ret Tryz.prog 138 [.agg #[.slice u p0.Arena.Owner.length v,.slice t p0.Arena.Next.length x,.slice y p0.Prio.length s]] w (Pvb κ w r):=by
 unfold ja at h
 refine Jk3 κ F138 R N138 R λhE=>Je [1,2] R<|Js3 (κ:=κ) 2 R λac w1 I e j=>Tv<|Jb 1 R<|Jq<|Je [2,1,1,2,2,2,1,2,2,2,1,2,2,2] R<|Jd3 R U79 R Z75<|Jb4 tv R (Jc4 (haE<|j.lds 0 2 R) I75 Z75 R)<|Ob h λab X h=>Jr3 R C132 (nY (κ:=Mk I) (p0:=p0.Arena) (Ji3<|O.stp e) (Ji3<|P.stp e) X) ?_
 rintro _ Z ⟨ai,rfl,N⟩
 obtain⟨H,c,aj⟩:=Ji N 3 R
 refine Tv<|Jn 2 R<|Ob h λD h Q=>Jf4 [1] 17 D H Z [(5,2),(6,1),(7,2),(8,2),(9,2),(10,1),(11,2),(12,2),(13,2)] [] tv ?_ ?_
 revert h
 cases ae:(!ab)
 refine JF λh=>Jd3 R U79 R Z37 ?_
 have z:=j.stp c
 refine Jb3 R I37 (z.ld 2 R R)<|Jn3 R U37 R R<|Jd3 R U79 R Z75<|Jd3 R U75 R Z37<|Jb3 R I37 (z.ld 0 R R)<|Jn3 R U37 R R<|Jn 2 R ?_
 cases h
 exact Jg4 tv R
 refine JT λh=>Jn 1 R<|Jz3 R<|Jn 3 R<|Jz3 R<|Jn 3 R ?_
 cases h
 exact Jg4 tv R
 rintro _ G _ ⟨rfl,i,d⟩
 have h:=Q
 refine Jd ?_
 revert h
 cases af:D
 refine JF λh=>Jy R<|Js<|Jp<|Jq<|Je3 R ?_
 have S:(p0.Prio.length:Int)<=9223372036854775807:=n.len_le
 refine Ob h λF U B=>?_
 clear h
 refine Jx1 (λL w'=>∃κ',L=[]/\Stp [] i G κ' w'/\F=eg ()) ?_ ?_
 refine Jv<|Jp3 [1] (λk E L w'=>∃κ' b,L=(3,vi b)::E/\Stp [] i G κ' w'/\0<=b/\n6 ((p0.Prio.length:Int)-b)=k/\cntM (gl p0) k b ()=some F) ⟨_,_,⟨i,0,R,Jj3,(by decide),(by simp),U⟩,(KM R)⟩ ?_
 rintro k _ am ⟨o,b,rfl,f,T,ad,h⟩
 rcases k with _ | k
 have m:=h;obtain⟨Y,h⟩:=cn (eg (gs ()):Bool⊕((Unit)⊕(Unit)))
 have g:decide (b<(p0.Prio.length:Int))=false:=Jo2 (by omega)
 refine Jq<|Jg3 [2,2,1,2,2] 1 R<|Jd3 R U79 R Z37<|Jb3 R I37 ((j.stp<|T3 c d f).ld 2 R R)<|Jn3 R U37 R R<|Jb 1 R<|Jw2 R g<|Jc1<|Jt<|Jt ?_
 cases h
 have h:=m
 refine Jb1 ?_
 cases h
 exact Jw1 _ ⟨o,R,f.wk R,R⟩ KN
 obtain⟨Y,h,m⟩:=BI h;unfold gl at h
 have g:decide (b<(p0.Prio.length:Int))=true:=Jn2 (by omega)
 refine Jq<|Jg3 [2,2,1,2,2] 1 R<|Jd3 R U79 R Z37 ?_
 have A:=j.stp (T3 c d f)
 refine Jb3 R I37 (A.ld 2 R R)<|Jn3 R U37 R R<|Jb 1 R<|Jv2 R g<|Js<|Jp<|Jq<|Jv<|Je [2,1,2,2,1,1,2] R<|Jd3 R U79 R Z37<|Jb3 R I37 (A.ld 2 R R)<|Jn 1 R<|Ob h λao C h=>Jc3 R n C U37 Z2<|Jb3 R I2 ((n.stp<|T4 e c d f).gInt C)<|Ob h λaa W h=>Jr3 R C59 (cP (κ:=Mk o) W) ?_
 rintro _ an ⟨ah,rfl,M⟩
 obtain⟨p,q,ak⟩:=Ji M 5 R
 refine Tv<|Jb 1 R ?_
 revert h
 cases ag:(!aa)
 refine JF λh=>Jy R<|Js<|Jz<|Jp<|Jf3 R ?_
 have V:cb .i64 (b+1)=b+1:=wr1 T (Jm2 g) S
 rw[V]
 have g:=Jm2 g
 cases h
 exact Jz1 λa ha=>⟨k,_,Ja3 _,⟨p,b+1,R,(f.tr q).wk R,by omega,by omega,m⟩,(ha.mm R)⟩
 refine JT λh=>Jx R<|Je3 R<|Ju<|Ja1<|Jw<|Jw ?_
 cases h
 obtain rfl:=Option.some.inj m
 have h:=yL B
 refine Ja1<|Jq2<|Jw<|Ja2 (l:=[.tmp 2]) V138 (Jp2 R R) R ?_
 cases h
 exact⟨p,R,(hE.stp<|T5 e c d f q)⟩
 rintro _ al ⟨J,rfl,K,rfl⟩
 have h:=yI B
 refine Jp<|Je3 R<|Ju<|Ja2 (l:=[.tmp 2]) V138 (Jp2 R R) R ?_
 cases h
 exact⟨J,R,(hE.stp<|T4 e c d K)⟩
 refine JT λh=>Jx R<|Je3 R<|Ju<|Jw<|Ja2 (l:=[.tmp 2]) V138 (Jp2 R R) R ?_
 cases h
 exact⟨i,R,(hE.stp<|T3 e c d)⟩
theorem qb (n:Nat):∀{w:World}{κ:Col}{af ac ag ad ae Z ab Y ah aa}{p0:l7Game}{a1 am}{p1:(List Bool)}(aG:Rd (Rp.int .i64) κ w 0 af ac p0.owner) (aH:Rd (Rp.int .i64) κ w 0 ag ad p0.prio) (aI:Rd (Rp.sl (Rp.int .i64)) κ w 0 ae Z p0.next) (aJ:Rd (Rp.sl (Rp.int .i64)) κ w 0 ab Y p0.prev) (aK:Rd (Rp.int .i64) κ w 0 ah aa p0.pick) (aL:Rd Rp.bool κ w 0 a1 am p1){r:(List Bool)}(h:kJ n p0 p1=some r),Ret Tryz.prog 250 [.agg #[.slice af p0.owner.length ac,.slice ag p0.prio.length ad,.slice ae p0.next.length Z,.slice ab p0.prev.length Y,.slice ah p0.pick.length aa],.slice a1 p1.length am] w (Pvs Ep.bool 4 κ w r):=by
 induction n with
 | zero=>
  intro w κ af ac ag ad ae Z ab Y ah aa p0 a1 am p1 aG aH aI aJ aK aL r h
  cases h
 | succ n bP=>
  intro w κ af ac ag ad ae Z ab Y ah aa p0 a1 am p1 aG aH aI aJ aK aL r h
  have h:ji (kJ n) p0 p1=some r:=h
  unfold ji at h
  refine Jk3 κ F250 R N250 R λhE=>Je [1,2] R<|Js3 (κ:=κ) 2 R λek w1 cd u aE=>Tv<|Jb 1 R<|Je [1,2,1,2] R<|Jb4 tv R (Jc4 (haE aE.cells) I210 Z210 R)<|Jn 1 R<|Ob h λS du h=>?_
  have bj:=aG.stp u
  have ai:=aH.stp u
  have br:=aI.stp u
  have bs:=aJ.stp u
  have bA:=aK.stp u
  have Q:=aL.stp u
  refine Jr3 R C270 (uD (κ:=Mk cd) (p0:=p0) (Ji3 bj) (Ji3 ai) (Ji3 br) (Ji3 bs) (Ji3 bA) (Ji3 Q) du) ?_
  rintro _ eF ⟨ex,rfl,cv⟩
  obtain⟨b8,g,eE⟩:=Ji cv 3 R
  refine Tv<|Jb 1 R<|Jg3 [2,2,1,2] 1 R<|Jn3 R U178 R R<|Ob h λx dv h=>Jl1 (κ:=b8) (E:=Ep.bool) (z:=(false:Bool)) 5 R R R R R R R Y178 dI R R R R R (λ_ _ _=>R) (Ju2 dv) λy A eM aX i aB=>Tv<|Jb 1 R<|Jq<|Je3 R ?_
  revert h
  cases et:decide (S<0)
  refine JF λh=>Jy R<|Js<|Jp<|Jg3 [2,2,2] 1 R<|Jf R (rR R R R (by decide))<|Jb 1 R<|Jg3 [2,2,1,2] 1 R<|Jn3 R U178 R R<|Ob h λan dw h=>Jl1 (κ:=aX) (E:=Ep.bool) (z:=(false:Bool)) 6 R R R R R R R Y178 dI R R R R R (λ_ _ _=>R) (Ju2 dw) λa8 a9 bY au d cL=>Tv<|Jb 1 R<|Jq<|Je3 R ?_
  have c4:(p1.length:Int)<=9223372036854775807:=Q.len_le
  refine Ob h λbS dj cZ=>?_
  clear h
  refine Jo3 [1,2,6,7,8] (λE L w'=>∃κ',∃ak:(List Bool),L=E/\Stp [6] au bY κ' w'/\Oc Ep.bool 4 κ' w' 6 a8 a9 ak/\an.length=ak.length/\bS=eg ak) ?_ ?_
  refine Jv<|Jp3 [1,2,5,6,7,8] (λk E L w'=>∃κ' t,∃J:(List Bool),L=(9,vi t)::E/\Stp [6] au bY κ' w'/\Oc Ep.bool 4 κ' w' 6 a8 a9 J/\an.length=J.length/\0<=t/\n6 ((p1.length:Int)-t)=k/\cntM (kv p0 p1 S) k t J=some bS) ⟨_,_,⟨au,0,an,R,Jj3,cL,R,(by decide),(by simp),dj⟩,(KM R)⟩ ?_
  rintro k _ dX ⟨aY,t,J,rfl,X,aD,aT,c8,eo,h⟩
  rcases k with _ | k
  have aP:=h;obtain⟨dN,h⟩:=cn (eg (gs J):(List Bool)⊕(((List Bool))⊕((List Bool))))
  have I:decide (t<(p1.length:Int))=false:=Jo2 (by omega)
  refine Jq<|Jg3 [2,2,2,2] 2 R<|Jn3 R U178 R R<|Jb 1 R<|Jw2 R I<|Jc1<|Jt<|Jt ?_
  cases h
  have h:=aP
  refine Jb1 ?_
  cases h
  exact Jw1 _ ⟨aY,J,R,X.wk R,aD,aT,R⟩<|KM R
  obtain⟨dN,h,aP⟩:=BI h;unfold kv at h
  have I:decide (t<(p1.length:Int))=true:=Jn2 (by omega)
  refine Jq<|Jg3 [2,2,2,2] 2 R<|Jn3 R U178 R R<|Jb 1 R<|Jv2 R I<|Js<|Jp<|Jq<|Jv<|Jh3 [2,2,2,2,2,1,2,2,1,2,2,1,2,2,2,2,1] 4 R<|Ob h λd3 bG h=>Jc3 R Q bG U178 Z4<|Jb3 R I4 ((Q.stp<|T4 g i d X).gBool bG)<|Jn 1 R<|Ob h λdR h c0=>Jf4 [1,2,5,6,7,8,9,39,40] 53 dR aY dX [(7,2),(8,1),(9,2),(10,2),(11,1),(12,2),(13,2),(14,2)] [(15,2),(16,1)] tv ?_ ?_
  revert h
  cases ew:d3
  refine JF λh=>Jn 1 R<|Jz3 R<|Jn 2 R<|Jz3 R<|Jn 3 R ?_
  cases h
  exact Jg4 tv R
  have aZ:=(T4 g i d X)
  refine JT λh=>Jd3 R U210 R Z37<|Jb3 R I37 ((aE.stp aZ).ld 1 R R)<|Jn 1 R<|Ob h λe2 bH h=>Jc3 R ai bH U37 Z2<|Jb3 R I2 ((ai.stp aZ).gInt bH)<|Jn 3 R ?_
  cases h
  exact Jg4 tv R
  rintro _ eU _ ⟨rfl,ci,a5⟩
  have h:=c0
  refine Ob h λe3 dx h=>Jf R (Jf2 aD.rdc dx U178 Z4 R R aT R)<|Ob h λb0 bL h=>Jk1 (κ:=ci) (E:=Ep.bool) 6 [] R R R R R R R R Z4 R R R R (aD.stp a5) bL λeV cj cu cN=>Tv<|?_
  have df:an.length=b0.length:=aT.trans (Jt2 bL).2.2.2.symm
  refine Jo<|Jz<|Jp<|Jf3 R ?_
  have dn:cb .i64 (t+1)=t+1:=wr1 c8 (Jm2 I) c4
  rw[dn]
  have I:=Jm2 I
  cases h
  exact Jz1 λa ha=>⟨k,_,Ja3 _,⟨cj,t+1,b0,R,(T3 X a5 cu).wk R,cN,df,by omega,by omega,aP⟩,(ha.mm R)⟩
  rintro _ eT ⟨ch,ak,rfl,m,cM,de,rfl⟩
  have h:=yI cZ
  refine Jp<|Jg3 [2,1,2,2,2,1,1,2] 1 R ?_
  have bk:=aE.stp (T4 g i d m)
  refine Jb4 tv R (Jc4 (haE bk.cells) I210 Z210 R)<|Jn 3 R<|Ob h λe4 dy h=>?_
  have bl:=bj.stp (T4 g i d m)
  have bm:=ai.stp (T4 g i d m)
  have bn:=br.stp (T4 g i d m)
  have bo:=bs.stp (T4 g i d m)
  have bp:=bA.stp (T4 g i d m)
  have bq:=Q.stp (T4 g i d m)
  refine Jr3 R C272 (Ret.cast (by simp only[de,List.cons_append,List.nil_append])<|mB (κ:=Mk ch) (p0:=p0) (Ji3 bl) (Ji3 bm) (Ji3 bn) (Ji3 bo) (Ji3 bp) (Ji3 bq) (Ji3 cM.rdc) dy) ?_
  rintro _ eW ⟨eB,d9,ar,rfl,cz,cO⟩
  obtain⟨ck,o,dG⟩:=Ji cz 7 R
  refine Tv<|Ob h λd4 dz h=>?_
  have D:=bq.stp o
  refine Jr3 R C271 (oJ (κ:=Mk ck) (Ji3 D) (Ji3 (cO.mx dV dG R (R:7+2=9)).rdc) dz) ?_
  rintro _ eX ⟨eC,eh,d8,rfl,cA,cP⟩
  obtain⟨cl,j,dH⟩:=Ji cA 10 R
  refine Tv<|?_
  have aF:=cP.mx dV dH R (R:10+2=12)
  refine Jb 1 R<|Je [1,2,1,2] R ?_
  have bt:=bk.stp (o.tr j)
  refine Jb4 tv R (Jc4 (haE bt.cells) I210 Z210 R)<|Jn 1 R<|Ob h λd5 dA h=>?_
  have bu:=bl.stp (o.tr j)
  have bv:=bm.stp (o.tr j)
  have bw:=bn.stp (o.tr j)
  have bx:=bo.stp (o.tr j)
  have bz:=bp.stp (o.tr j)
  refine Jr3 R C250 (bP (κ:=Mk cl) (p0:=p0) (Ji3 bu) (Ji3 bv) (Ji3 bw) (Ji3 bx) (Ji3 bz) (Ji3 aF.rdc) dA) ?_
  rintro _ eY ⟨eD,ea,ej,rfl,cB,cQ⟩
  obtain⟨cm,e,dJ⟩:=Ji cB 13 R
  refine Tv<|?_
  have bB:=cQ.mx dV dJ R (R:13+2=15)
  refine Jb 1 R<|Jg3 [2,2,1,2] 1 R<|Jn3 R U178 R R<|Ob h λao dB h=>Jl1 (κ:=cm) (E:=Ep.bool) (z:=(false:Bool)) 16 R R R R R R R Y178 dI R R R R R (λ_ _ _=>R) (Ju2 dB) λa7 a6 bZ av c cC=>Tv<|Jb 1 R<|Je3 R<|Jq<|Je3 R ?_
  have c1:(p1.length:Int)<=9223372036854775807:=D.len_le
  refine Ob h λbT dg cR=>?_
  clear h
  refine Jo3 [1,2,6,7,12] (λE L w'=>∃κ',∃M:Bool×(List Bool),L=(13,.bool M.1)::E/\Stp [16] av bZ κ' w'/\Oc Ep.bool 4 κ' w' 16 a7 a6 M.2/\ao.length=M.2.length/\bT=eg M) ?_ ?_
  refine Jv<|Jp3 [1,2,6,7,10,11,12] (λk E L w'=>∃κ' p,∃v:Bool×(List Bool),L=(13,.bool v.1)::(14,vi p)::E/\Stp [16] av bZ κ' w'/\Oc Ep.bool 4 κ' w' 16 a7 a6 v.2/\ao.length=v.2.length/\0<=p/\n6 ((p1.length:Int)-p)=k/\cntM (jh S d4 d5) k p v=some bT) ⟨_,_,⟨av,0,(false,ao),R,Jj3,cC,R,(by decide),(by simp),dg⟩,(KM R)⟩ ?_
  rintro k _ dT ⟨aU,p,v,rfl,U,ax,aQ,c5,el,h⟩
  rcases k with _ | k
  have aM:=h;obtain⟨dK,h⟩:=cn (eg (gs v):(List Bool)⊕((Bool×(List Bool))⊕(Bool×(List Bool))))
  have F:decide (p<(p1.length:Int))=false:=Jo2 (by omega)
  refine Jq<|Jg3 [2,2,2,2] 2 R<|Jn3 R U178 R R<|Jb 1 R<|Jw2 R F<|Jc1<|Jt<|Jt ?_
  cases h
  have h:=aM
  refine Jb1 ?_
  cases h
  exact Jw1 _ ⟨aU,(v.1,v.2),R,U.wk R,ax,aQ,R⟩<|KM R
  obtain⟨dK,h,aM⟩:=BI h;unfold jh at h
  have F:decide (p<(p1.length:Int))=true:=Jn2 (by omega)
  refine Jq<|Jg3 [2,2,2,2] 2 R<|Jn3 R U178 R R<|Jb 1 R<|Jv2 R F<|Js<|Jp<|Jq<|Jv<|Jg3 [2,2,2,2,2,1,2,2,2,2,1,2,2,2,2,2,1] 4 R<|Ob h λd6 bI h=>Jc3 R aF.rdc bI U178 Z4<|Jb3 R I4 ((aF.stp<|T3 e c U).rdc.gBool bI)<|Jn 1 R<|Ob h λdS h cS=>Jf4 [1,2,6,7,10,11,12,13,14,74,75] 88 dS aU dT [(7,2),(8,2),(9,2),(10,1),(11,2),(12,2),(13,2),(14,2)] [(15,2),(16,1)] tv ?_ ?_
  revert h
  cases ep:d6
  refine JF λh=>Jn 3 R<|Jz3 R<|Jn 4 R ?_
  cases h
  exact Jg4 tv R
  refine JT λh=>Jn 2 R<|Ob h λe5 bJ h=>Jc3 R bB.rdc bJ U178 Z4<|Jb3 R I4 ((bB.stp<|c.tr U).rdc.gBool bJ)<|Jn 2 R<|Jf R (vn R R U4 R)<|Jn 1 R ?_
  cases h
  exact Jg4 tv R
  rintro _ eG _ ⟨rfl,b4,a0⟩
  have h:=cS
  refine Ob h λe6 dC h=>Jf R (Jf2 ax.rdc dC U178 Z4 R R aQ R)<|Ob h λb1 bM h=>Jk1 (κ:=b4) (E:=Ep.bool) 16 [] R R R R R R R R Z4 R R R R (ax.stp a0) bM λdU b5 co ay=>Tv<|?_
  have bC:ao.length=b1.length:=aQ.trans (Jt2 bM).2.2.2.symm
  refine Jd<|Jh3 [2,2,2,2,2,1,2,2] 2 R<|Ob h λbQ h cT=>Jf4 [1,2,6,7,10,11,12,13,14] 96 bQ b5 dU [(2,2),(3,2),(4,2),(5,1),(6,2)] [(7,2)] tv ?_ ?_
  revert h
  cases eq:v.1
  refine JF λh=>Jn 2 R<|Ob h λe7 bK h=>Jf R (Jf2 ay.rdc bK U178 Z4 R R bC R)<|Jb3 R I4 (ay.rdc.gBool bK)<|Jn 1 R ?_
  cases h
  exact Jg4 tv R
  refine JT λh=>Jn 3 R<|Jz3 R<|Jn 1 R ?_
  cases h
  exact Jg4 tv R
  rintro _ eH _ ⟨rfl,b6,a2⟩
  have h:=cT
  refine Jc 1 R<|Jz<|Jp<|Jf3 R ?_
  have dk:cb .i64 (p+1)=p+1:=wr1 c5 (Jm2 F) c1
  rw[dk]
  have F:=Jm2 F
  cases h
  exact Jz1 λa ha=>⟨k,_,Ja3 _,⟨b6,p+1,(bQ,b1),R,(T4 U a0 co a2).wk R,(ay.stp a2),bC,by omega,by omega,aM⟩,(ha.mm R)⟩
  rintro _ bV ⟨T,M,rfl,f,cD,c9,rfl⟩
  have h:=yI cR
  refine Jp<|Jq<|Je3 R ?_
  revert h
  cases er:(!M.1)
  refine JF λh=>Jy R<|Js<|Jp<|Je [1,2,2,2,2,1,2] R ?_
  have ba:=bt.stp (T3 e c f)
  refine Jb4 tv R (Jc4 (haE ba.cells) I210 Z210 R)<|Jn 4 R<|Ob h λdZ dq h=>?_
  have bb:=bu.stp (T3 e c f)
  have bc:=bv.stp (T3 e c f)
  have bd:=bw.stp (T3 e c f)
  have be:=bx.stp (T3 e c f)
  have bf:=bz.stp (T3 e c f)
  have bg:=D.stp (T4 j e c f)
  refine Jr3 R C272 (Ret.cast (by simp only[c9,List.cons_append,List.nil_append])<|mB (κ:=Mk T) (p0:=p0) (Ji3 bb) (Ji3 bc) (Ji3 bd) (Ji3 be) (Ji3 bf) (Ji3 bg) (Ji3 cD.rdc) dq) ?_
  rintro _ eL ⟨ey,ei,ed,rfl,cw,cG⟩
  obtain⟨aW,P,dD⟩:=Ji cw 17 R
  refine Tv<|Jb 1 R<|Jq<|Js1 (κ:=aW) [2] none [(1,2),(2,2),(0,0),(3,1),(4,1),(5,2)] [] (by kernel_rfl) (by kernel_rfl) λeN B=>Jn 2 R<|Jg R (Jc4 (haC (ba.stp<|P.tr B).cells R) I210 Z210 R)<|Ob h λe0 dr h=>?_
  have bh:=bg.stp (P.tr B)
  have aA:=(cG.mx dV dD R (R:17+2=19)).stp B
  refine Jr3 R C271 (oJ (κ:=Mk aW) (Ji3 bh) (Ji3 aA.rdc) dr) ?_
  rintro _ eO ⟨ez,ef,ec,rfl,cx,cH⟩
  obtain⟨cc,C,dE⟩:=Ji cx 20 R
  have O:=(T3 P B C)
  refine⟨(C.cl R),Ob h λd0 ds h=>Jr3 R C250 (bP (κ:=Mk cc) (p0:=p0) (Ji3<|bb.stp O) (Ji3<|bc.stp O) (Ji3<|bd.stp O) (Ji3<|be.stp O) (Ji3<|bf.stp O) (Ji3 (cH.mx dV dE R (R:20+2=22)).rdc) ds) ?_⟩
  rintro _ bW ⟨eA,ee,eb,rfl,cy,cI⟩
  obtain⟨ap,V,dF⟩:=Ji cy 23 R
  refine⟨((C.tr V).cl R),?_⟩
  have bi:=cI.mx dV dF R (R:23+2=25)
  refine Jn 1 R<|Jt1<|Jd<|Jq<|Je3 R ?_
  have c3:(p1.length:Int)<=9223372036854775807:=bh.len_le
  refine Ob h λbR di cW=>?_
  clear h
  refine Jo3 [6] (λE L w'=>∃κ',∃aj:(List Bool),L=E/\Stp [5] ap bW κ' w'/\Oc Ep.bool 4 κ' w' 5 y A aj/\x.length=aj.length/\bR=eg aj) ?_ ?_
  refine Jv<|Jp3 [1,6,7,16,17] (λk E L w'=>∃κ' s,∃K:(List Bool),L=(18,vi s)::E/\Stp [5] ap bW κ' w'/\Oc Ep.bool 4 κ' w' 5 y A K/\x.length=K.length/\0<=s/\n6 ((p1.length:Int)-s)=k/\cntM (kx S dZ d0) k s K=some bR) ⟨_,_,⟨ap,0,x,R,Jj3,(aB.stp<|T11 d m o j e c f P B C V),R,(by decide),(by simp),di⟩,(KM R)⟩ ?_
  rintro k _ bX ⟨aq,s,K,rfl,W,aC,aS,c7,en,h⟩
  rcases k with _ | k
  have aO:=h;obtain⟨dM,h⟩:=cn (eg (gs K):(List Bool)⊕(((List Bool))⊕((List Bool))))
  have H:decide (s<(p1.length:Int))=false:=Jo2 (by omega)
  refine Jq<|Jg3 [2,2,2,2] 2 R<|Jn3 R U178 R R<|Jb 1 R<|Jw2 R H<|Jc1<|Jt<|Jt ?_
  cases h
  have h:=aO
  refine Jb1 ?_
  cases h
  exact Jw1 _ ⟨aq,K,R,W.wk R,aC,aS,R⟩<|KM R
  obtain⟨dM,h,aO⟩:=BI h;unfold kx at h
  have H:decide (s<(p1.length:Int))=true:=Jn2 (by omega)
  refine Jq<|Jg3 [2,2,2,2] 2 R<|Jn3 R U178 R R<|Jb 1 R<|Jv2 R H<|Js<|Jp<|Jq<|Jv<|Jh3 [2,2,2,2,2,1,2,2,2,2,1,2,2,2,2,2,2,1] 4 R<|Ob h λd1 bE h=>Jc3 R bi.rdc bE U178 Z4<|Jb3 R I4 ((bi.stp W).rdc.gBool bE)<|Jn 1 R<|Ob h λdQ h cX=>Jf4 [1,6,7,16,17,18,134,135] 149 dQ aq bX [(7,2),(8,2),(9,2),(10,1),(11,2),(12,2),(13,2),(14,2),(15,2)] [(16,2),(17,1)] tv ?_ ?_
  revert h
  cases eu:d1
  refine JF λh=>Jn 2 R<|Ob h λd2 bF h=>Jc3 R aA.rdc bF U178 Z4<|Jb3 R I4 ((aA.stp<|T3 C V W).rdc.gBool bF)<|Jn 1 R<|Ob h λdP h cY=>Jf4 [1,6,7,16,17,18,134,135,140,141,142,143,144,145] 148 dP aq bX [(12,2),(13,2),(14,2)] [(15,2)] tv ?_ ?_
  revert h
  cases ev:d2
  refine JF λh=>Jn 3 R ?_
  cases h
  exact Jg4 tv R
  refine JT λh=>Jn 3 R ?_
  cases h
  exact Jg4 tv R
  rintro _ eQ _ ⟨rfl,d7,cs⟩
  have h:=cY
  refine Jn 1 R ?_
  cases h
  exact Jv1 _ tv ⟨R,_,cs.wk R⟩<|KM R
  refine JT λh=>Jn 3 R<|Jz3 R<|Jn 5 R ?_
  cases h
  exact Jg4 tv R
  rintro _ eR _ ⟨rfl,cf,a4⟩
  have h:=cX
  refine Ob h λe1 dt h=>Jf R (Jf2 aC.rdc dt U178 Z4 R R aS R)<|Ob h λb3 bO h=>Jk1 (κ:=cf) (E:=Ep.bool) 5 [] R R R R R R R R Z4 R R R R (aC.stp a4) bO λeS cg ct cK=>Tv<|?_
  have dd:x.length=b3.length:=aS.trans (Jt2 bO).2.2.2.symm
  refine Jo<|Jz<|Jp<|Jf3 R ?_
  have dm:cb .i64 (s+1)=s+1:=wr1 c7 (Jm2 H) c3
  rw[dm]
  have H:=Jm2 H
  cases h
  exact Jz1 λa ha=>⟨k,_,Ja3 _,⟨cg,s+1,b3,R,(T3 W a4 ct).wk R,cK,dd,by omega,by omega,aO⟩,(ha.mm R)⟩
  rintro _ eP ⟨ce,aj,rfl,cr,cJ,dc,rfl⟩
  have h:=yI cW
  refine Jp<|Je3 R<|Ju<|Ja2 (l:=[.tmp 4]) V250 (Jp2 R R) R ?_
  cases h
  exact⟨(λb=>ren [(5,2)]<|ce b),y,A,(by simp only[dc]),((hE.stp<|T15 u g i d m o j e c f P B C V cr).map (ren [(5,2)]) R R),(cJ.map (ren [(5,2)]) R R)⟩
  refine JT λh=>Jx R<|Jq<|Je3 R ?_
  have c2:(p1.length:Int)<=9223372036854775807:=D.len_le
  refine Ob h λbU dh cU=>?_
  clear h
  refine Jo3 [6] (λE L w'=>∃κ',∃al:(List Bool),L=E/\Stp [5] T bV κ' w'/\Oc Ep.bool 4 κ' w' 5 y A al/\x.length=al.length/\bU=eg al) ?_ ?_
  refine Jv<|Jp3 [1,6,7] (λk E L w'=>∃κ' q,∃N:(List Bool),L=(15,vi q)::E/\Stp [5] T bV κ' w'/\Oc Ep.bool 4 κ' w' 5 y A N/\x.length=N.length/\0<=q/\n6 ((p1.length:Int)-q)=k/\cntM (kw p1 S) k q N=some bU) ⟨_,_,⟨T,0,x,R,Jj3,(aB.stp<|T7 d m o j e c f),R,(by decide),(by simp),dh⟩,(KM R)⟩ ?_
  rintro k _ dW ⟨aV,q,N,rfl,aw,az,aR,c6,em,h⟩
  rcases k with _ | k
  have aN:=h;obtain⟨dL,h⟩:=cn (eg (gs N):(List Bool)⊕(((List Bool))⊕((List Bool))))
  have G:decide (q<(p1.length:Int))=false:=Jo2 (by omega)
  refine Jq<|Jg3 [2,2,2,2] 2 R<|Jn3 R U178 R R<|Jb 1 R<|Jw2 R G<|Jc1<|Jt<|Jt ?_
  cases h
  have h:=aN
  refine Jb1 ?_
  cases h
  exact Jw1 _ ⟨aV,N,R,aw.wk R,az,aR,R⟩<|KM R
  obtain⟨dL,h,aN⟩:=BI h;unfold kw at h
  have G:decide (q<(p1.length:Int))=true:=Jn2 (by omega)
  refine Jq<|Jg3 [2,2,2,2] 2 R<|Jn3 R U178 R R<|Jb 1 R<|Jv2 R G<|Js<|Jp<|Jq<|Jv<|Jh3 [2,2,2,2,2,1,2,2,2,2,2,1] 4 R<|Ob h λdY bD h=>Jc3 R D bD U178 Z4<|Jb3 R I4 ((D.stp<|T5 j e c f aw).gBool bD)<|Jn 1 R<|Ob h λdO h cV=>Jf4 [1,6,7,15,105,106] 114 dO aV dW [(7,2),(8,2),(9,2)] [(10,2),(11,1)] tv ?_ ?_
  revert h
  cases es:dY
  refine JF λh=>Jn 3 R ?_
  cases h
  exact Jg4 tv R
  refine JT λh=>Jn 3 R ?_
  cases h
  exact Jg4 tv R
  rintro _ eJ _ ⟨rfl,b9,a3⟩
  have h:=cV
  refine Ob h λeZ dp h=>Jf R (Jf2 az.rdc dp U178 Z4 R R aR R)<|Ob h λb2 bN h=>Jk1 (κ:=b9) (E:=Ep.bool) 5 [] R R R R R R R R Z4 R R R R (az.stp a3) bN λeK ca cq cF=>Tv<|?_
  have db:x.length=b2.length:=aR.trans (Jt2 bN).2.2.2.symm
  refine Jo<|Jz<|Jp<|Jf3 R ?_
  have dl:cb .i64 (q+1)=q+1:=wr1 c6 (Jm2 G) c2
  rw[dl]
  have G:=Jm2 G
  cases h
  exact Jz1 λa ha=>⟨k,_,Ja3 _,⟨ca,q+1,b2,R,(T3 aw a3 cq).wk R,cF,db,by omega,by omega,aN⟩,(ha.mm R)⟩
  rintro _ eI ⟨b7,al,rfl,cp,cE,da,rfl⟩
  have h:=yI cU
  refine Jp<|Je3 R<|Ju<|Jw<|Ja2 (l:=[.tmp 4]) V250 (Jp2 R R) R ?_
  cases h
  exact⟨(λb=>ren [(5,2)]<|b7 b),y,A,(by simp only[da]),((hE.stp<|T11 u g i d m o j e c f cp).map (ren [(5,2)]) R R),(cE.map (ren [(5,2)]) R R)⟩
  refine JT λh=>Jx R<|Je3 R<|Ju<|Jw<|Ja2 (l:=[.tmp 4]) V250 (Jp2 R R) R ?_
  cases h
  exact⟨(λb=>ren [(5,2)]<|aX b),y,A,R,((hE.stp<|T3 u g i).map (ren [(5,2)]) R R),(aB.map (ren [(5,2)]) R R)⟩
theorem nA {K M J I G H}{p0:Parity}(aA:Rd (Rp.int .i64) κ w 0 K M p0.Arena.Owner) (aB:Rd (Rp.sl (Rp.int .i64)) κ w 0 J I p0.Arena.Next) (aC:Rd (Rp.int .i64) κ w 0 G H p0.Prio){r:(List Int)}(h:jn p0=some r):Ret Tryz.prog 200 [.agg #[.slice K p0.Arena.Owner.length M,.slice J p0.Arena.Next.length I,.slice G p0.Prio.length H]] w (Pvs E6 2 κ w r):=by
 unfold jn at h
 refine Jk3 κ F200 R N200 R λhE=>Je [1,2] R<|Js3 (κ:=κ) 2 R λa9 w1 z m au=>Tv<|Jb 1 R<|Jq<|Js1 (κ:=z) [2] none [(2,2),(0,0),(3,0),(4,2),(1,1),(5,1),(6,1),(7,2)] [] (by kernel_rfl) (by kernel_rfl) λbk g=>Jd3 R U79 R Z37 ?_
 have O:=au.stp g
 refine Jg R (Jc4 (haC O.cells R) I79 Z79 R)<|Jg R (Jc2 I37 R R<|hvC (O.ld 2 R R) R)<|Jn3 R U37 R R<|Ob h λaS aM h=>Jr3 R C201 (ra (κ:=λb=>mp [] 1<|z b) (p0:=p0) (Jl2 (aA.stp<|m.tr g) (mp [] 1) R R) (Jl2 (aB.stp<|m.tr g) (mp [] 1) R R) (Jl2 (aC.stp<|m.tr g) (mp [] 1) R R) aM) ?_
 rintro _ bg ⟨bb,aY,aV,ar,a5,aZ,a3,a2,aW,a0,a7,rfl,ah,al,am,an,ao,ap⟩
 obtain⟨U,j,Q,y⟩:=Jj ah 3 R
 refine⟨(j.cl R),Ob h λbp aI h=>Jr3 R C252 (uC (κ:=Mk U) aI) ?_⟩
 rintro _ bh ⟨bc,aU,a6,rfl,ai,aq⟩
 obtain⟨V,d,aN⟩:=Ji ai 10 R
 refine⟨((j.tr d).cl R),Ob h λi aJ h=>Jr3 R C250 (qb _ (κ:=Mk V) (p0:=aS) (Ji3 ((al.mx y).stp d)) (Ji3 ((am.mx y).stp d)) (Ji3 ((an.mx y).stp d)) (Ji3 ((ao.mx (cD (bX _) _) Q R (R:3+5=8)).stp d).rdc) (Ji3 ((ap.mx (bX _) Q R (R:3+6=9)).stp d).rdc) (Ji3 (aq.mx dV aN R (R:10+2=12)).rdc) aJ) ?_⟩
 rintro _ bi ⟨bd,aT,a4,rfl,aj,av⟩
 obtain⟨W,B,aO⟩:=Ji aj 13 R
 refine⟨((T3 j d B).cl R),?_⟩
 have v:=av.mx dV aO R (R:13+2=15)
 refine Jn 1 R<|Jt1<|Jd<|Je [1,2] R<|Jx3 (κ:=W) (E:=E6) 16 R Y37 a8 R λag af T t C aw=>Tv<|Jb 1 R<|Jq<|Je3 R ?_
 have aE:(i.length:Int)<=9223372036854775807:=v.len_le
 refine Ob h λS aG aD=>?_
 clear h
 refine Jx1 (λL w'=>∃κ',∃s:(List Int),∃n q,L=[(4,.slice n s.length q)]/\Stp [16] t T κ' w'/\Oc E6 2 κ' w' 16 n q s/\S=eg s) ?_ ?_
 refine Jv<|Jp3 [3] (λk E L w'=>∃κ' c,∃f:(List Int),∃p o,L=(4,.slice p f.length o)::(5,vi c)::E/\Stp [16] t T κ' w'/\Oc E6 2 κ' w' 16 p o f/\0<=c/\n6 ((i.length:Int)-c)=k/\cntM (kz i) k c f=some S) ⟨_,_,⟨t,0,(([]:List Int):(List Int)),ag,af,R,Jj3,aw,(by decide),(by simp),aG⟩,(KM R)⟩ ?_
 rintro k _ bl ⟨A,c,f,p,o,rfl,u,N,aF,ba,h⟩
 rcases k with _ | k
 have x:=h;obtain⟨aP,h⟩:=cn (eg (gs f):(List Int)⊕(((List Int))⊕((List Int))))
 have e:decide (c<(i.length:Int))=false:=Jo2 (by omega)
 refine Jq<|Jg3 [2,2,2,2] 2 R<|Jn3 R U178 R R<|Jb 1 R<|Jw2 R e<|Jc1<|Jt<|Jt ?_
 cases h
 have h:=x
 refine Jb1 ?_
 cases h
 exact Jw1 _ ⟨A,f,p,o,R,u.wk R,N,R⟩<|KM R
 obtain⟨aP,h,x⟩:=BI h;unfold kz at h
 have e:decide (c<(i.length:Int))=true:=Jn2 (by omega)
 refine Jq<|Jg3 [2,2,2,2] 2 R<|Jn3 R U178 R R<|Jb 1 R<|Jv2 R e<|Js<|Jp<|Jq<|Jv<|Jh3 [2,2,2,2,1,1,2,1,1,2] 3 R<|Ob h λbq P h=>Jc3 R v.rdc P U178 Z4<|Jb3 R I4 ((v.stp<|C.tr u).rdc.gBool P)<|Ob h λaQ aK h=>Jr3 R C192 (mA (κ:=Mk A) aK) ?_
 rintro _ bm ⟨be,rfl,ak⟩
 obtain⟨Y,D,bf⟩:=Ji ak 17 R
 refine Tv<|Jn 1 R<|Jd4 (κ:=Y) 19 [(IntKind.i64.wrap (1-aQ))] R Y37 a8 R λaX a1 bn Z F ay=>Tv<|Ob h λaR aL h=>Jy3 (κ:=Z) (E:=E6) 16 [] R Y37 a8 R (N.stp<|D.tr F) (Sl.srcP (co _) ay.rdc) bZ aL R λae ad bo aa ac az=>Tv<|Jc 1 R<|Jz<|Jp<|Jf3 R ?_
 have aH:cb .i64 (c+1)=c+1:=wr1 aF (Jm2 e) aE
 rw[aH]
 have e:=Jm2 e
 cases h
 exact Jz1 λa ha=>⟨k,_,Ja3 _,⟨aa,c+1,aR,ae,ad,R,(T4 u D F ac).wk R,az,by omega,by omega,x⟩,(ha.mm R)⟩
 rintro _ bj ⟨X,s,n,q,rfl,ab,ax,rfl⟩
 have h:=yI aD
 refine Jp<|Je3 R<|Ju<|Ja2 (l:=[.tmp 2]) V200 (Jp2 R R) R ?_
 cases h
 exact⟨(λb=>ren [(16,2)]<|X b),n,q,R,((hE.stp<|T7 m g j d B C ab).map (ren [(16,2)]) R R),(ax.map (ren [(16,2)]) R R)⟩
theorem sg {t z y p A q v x u s}{p0:l7Game}{a1 I}{p1:(List Bool)}{p2:Int}(S:Rd (Rp.int .i64) κ w 0 t z p0.owner) (T:Rd (Rp.int .i64) κ w 0 y p p0.prio) (U:Rd (Rp.sl (Rp.int .i64)) κ w 0 A q p0.next) (V:Rd (Rp.sl (Rp.int .i64)) κ w 0 v x p0.prev) (W:Rd (Rp.int .i64) κ w 0 u s p0.pick) (X:Rd Rp.bool κ w 0 a1 I p1){r:Bool}(h:lz p0 p1 p2=some r):Ret Tryz.prog 253 [.agg #[.slice t p0.owner.length z,.slice y p0.prio.length p,.slice A p0.next.length q,.slice v p0.prev.length x,.slice u p0.pick.length s],.slice a1 p1.length I,vi p2] w (Pvb κ w r):=by
 unfold lz at h
 refine Jk3 κ F253 R N253 R λhE=>Je [1,2] R<|Js3 (κ:=κ) 2 R λal w1 K c Q=>Tv<|Jb 1 R<|Je [1,2,1,2] R<|Jb4 tv R (Jc4 (haE Q.cells) I210 Z210 R)<|Jn 1 R<|Ob h λah ad h=>?_
 have f:=X.stp c
 refine Jr3 R C250 (qb _ (κ:=Mk K) (p0:=p0) (Ji3<|S.stp c) (Ji3<|T.stp c) (Ji3<|U.stp c) (Ji3<|V.stp c) (Ji3<|W.stp c) (Ji3 f) ad) ?_
 rintro _ J ⟨ap,ak,aj,rfl,O,P⟩
 obtain⟨i,j,ae⟩:=Ji O 3 R
 refine Tv<|?_
 have B:=P.mx dV ae R (R:3+2=5)
 refine Jb 1 R<|Jq<|Je3 R ?_
 have Z:(p1.length:Int)<=9223372036854775807:=f.len_le
 refine Ob h λH ab C=>?_
 clear h
 refine Jx1 (λL w'=>∃κ',L=[]/\Stp [] i J κ' w'/\H=eg ()) ?_ ?_
 refine Jv<|Jp3 [1,2,7] (λk E L w'=>∃κ' b,L=(8,vi b)::E/\Stp [] i J κ' w'/\0<=b/\n6 ((p1.length:Int)-b)=k/\cntM (iQ p1 p2 ah) k b ()=some H) ⟨_,_,⟨i,0,R,Jj3,(by decide),(by simp),ab⟩,(KM R)⟩ ?_
 rintro k _ ag ⟨m,b,rfl,e,aa,am,h⟩
 rcases k with _ | k
 have g:=h;obtain⟨af,h⟩:=cn (eg (gs ()):Bool⊕((Unit)⊕(Unit)))
 have d:decide (b<(p1.length:Int))=false:=Jo2 (by omega)
 refine Jq<|Jg3 [2,2,2,2] 2 R<|Jn3 R U178 R R<|Jb 1 R<|Jw2 R d<|Jc1<|Jt<|Jt ?_
 cases h
 have h:=g
 refine Jb1 ?_
 cases h
 exact Jw1 _ ⟨m,R,e.wk R,R⟩ KN
 obtain⟨af,h,g⟩:=BI h;unfold iQ at h
 have d:decide (b<(p1.length:Int))=true:=Jn2 (by omega)
 refine Jq<|Jg3 [2,2,2,2] 2 R<|Jn3 R U178 R R<|Jb 1 R<|Jv2 R d<|Js<|Jp<|Jq<|Jv<|Jg3 [2,2,2,1,2,2,2,2,1,2,2,2,2] 2 R<|Ob h λai D h=>Jc3 R f D U178 Z4<|Jb3 R I4 ((f.stp<|j.tr e).gBool D)<|Jn 1 R<|Ob h λG h Y=>Jf4 [1,2,7,8] 30 G m ag [(5,2),(6,2),(7,2),(8,1),(9,2),(10,2),(11,2),(12,2)] [] tv ?_ ?_
 revert h
 cases an:ai
 refine JF λh=>Jn 3 R<|Jz3 R<|Jn 4 R ?_
 cases h
 exact Jg4 tv R
 refine JT λh=>Jn 2 R<|Ob h λau F h=>Jc3 R B.rdc F U178 Z4<|Jb3 R I4 ((B.stp e).rdc.gBool F)<|Jn 2 R<|Jf R (vn R R U4 R)<|Jn 1 R ?_
 cases h
 exact Jg4 tv R
 rintro _ ar _ ⟨rfl,n,o⟩
 have h:=Y
 refine Jd ?_
 revert h
 cases ao:G
 refine JF λh=>Jy R<|Js<|Jz<|Jp<|Jf3 R ?_
 have ac:cb .i64 (b+1)=b+1:=wr1 aa (Jm2 d) Z
 rw[ac]
 have d:=Jm2 d
 cases h
 exact Jz1 λa ha=>⟨k,_,Ja3 _,⟨n,b+1,R,(e.tr o).wk R,by omega,by omega,g⟩,(ha.mm R)⟩
 refine JT λh=>Jx R<|Je3 R<|Ju<|Ja1<|Jw<|Jw ?_
 cases h
 obtain rfl:=Option.some.inj g
 have h:=yL C
 refine Ja1<|Jq2<|Jw<|Ja2 (l:=[.tmp 6]) V253 (Jp2 R R) R ?_
 cases h
 exact⟨n,R,(hE.stp<|T4 c j e o)⟩
 rintro _ aq ⟨M,rfl,N,rfl⟩
 have h:=yI C
 refine Jp<|Je3 R<|Ju<|Ja2 (l:=[.tmp 6]) V253 (Jp2 R R) R ?_
 cases h
 exact⟨M,R,(hE.stp<|T3 c j N)⟩
theorem oz {p0:Sig}{u A t z}{p1:Machine}{y x v s}{p2:Machine}(ad:Rd (Rp.sl (Rp.int .i64)) κ w 0 u A p1.Next) (ae:Rd (Rp.sl (Rp.int .i64)) κ w 0 t z p1.Out) (G:Rd (Rp.sl (Rp.int .i64)) κ w 0 y x p2.Next) (H:Rd (Rp.sl (Rp.int .i64)) κ w 0 v s p2.Out){r:Bool}(h:gu p0 p1 p2=some r):Ret Tryz.prog 21 [.agg #[vi p0.In,vi p0.Out],.agg #[.slice u p1.Next.length A,.slice t p1.Out.length z],.agg #[.slice y p2.Next.length x,.slice v p2.Out.length s]] w (Pvb κ w r):=by
 unfold gu at h
 refine Jk3 κ F21 R N21 R λhE=>Je [1,1,1,2] R<|Js3 (κ:=κ) 2 R λaE w1 L i X=>Tv<|Js3 (κ:=L) 3 R λaF aU N g ac=>Tv<|Js3 (κ:=N) 4 R λaG aY m d B=>Tv<|Jb 1 R<|Jq<|Js1 (κ:=m) [2,3,4] none [(0,0),(1,0),(2,1),(3,2),(4,0),(5,0),(6,1),(7,2),(8,2),(9,0),(11,0),(10,1),(12,1),(13,1),(14,2),(15,2)] [] (by kernel_rfl) (by kernel_rfl) λaR c=>?_
 have C:=X.stp (T3 g d c)
 refine Jg R (Jc4 (haC C.cells R) I28 Z28 R) ?_
 have D:=ac.stp (d.tr c)
 refine Jg R (Jc4 (haC D.cells R) I33 Z33 R)<|Ob h λar al h=>?_
 have E:=ad.stp (T4 i g d c)
 have F:=ae.stp (T4 i g d c)
 refine Jr3 R C17 (iA (κ:=Mk m) (p0:=p0) (p1:=p1) (Ji3 E) (Ji3 F) al) ?_
 rintro _ an ⟨aJ,rfl,S⟩
 obtain⟨n,a,aO⟩:=Ji S 5 R
 refine⟨(a.cl R),Jn 1 R<|Ob h λK h af=>Jf4 [4,5,6] 14 K n an [(4,0),(5,0),(6,1),(7,2)] [(8,2),(9,0),(11,0),(10,1),(12,1),(13,1),(14,2),(15,2)] (a.cl R) ?_ ?_⟩
 revert h
 cases aH:ar
 refine JF λh=>Ja4 R<|Ja4 R<|Jz3 R<|Jn 1 R ?_
 cases h
 exact Jv1 _ (a.cl R) ⟨R,_,Jj3⟩<|KM R
 have p:=(T5 i g d c a)
 refine JT λh=>Jg R (Jc4 (haC C.cells R) I28 Z28 R)<|Jg R (Jc4 (haC (B.stp c).cells R) I33 Z33 R)<|Ob h λaZ ah h=>Jr3 R C17 (iA (κ:=Mk n) (p0:=p0) (p1:=p2) (Ji3<|G.stp p) (Ji3<|H.stp p) ah) ?_
 rintro _ aS ⟨aK,rfl,T⟩
 obtain⟨au,j,aP⟩:=Ji T 7 R
 refine⟨((a.tr j).cl R),Jn 1 R ?_⟩
 cases h
 exact Jv1 _ ((a.tr j).cl R) ⟨R,_,j.wk R⟩<|KM R
 rintro _ ao _ ⟨rfl,o,b⟩
 have h:=af
 refine Jn 1 R<|Ob h λam h ag=>Jf4 [6] 21 am o ao [(9,0),(11,0),(10,1),(12,1),(13,1),(14,2)] [(15,2)] ((a.tr b).cl R) ?_ ?_
 revert h
 cases aI:K
 refine JF λh=>Ja4 R<|Ja4 R<|Jz3 R<|Jz3 R<|Jz3 R<|Jn 1 R ?_
 cases h
 exact Jv1 _ ((a.tr b).cl R) ⟨R,_,Jj3⟩<|KM R
 refine JT λh=>Jg R (Jc4 (haC D.cells R) I33 Z33 R)<|Jg R (Jc4 (haC (B.stp c).cells R) I33 Z33 R)<|Ob h λap ai h=>Jr3 R C70 (kS (κ:=Mk o) (p0:=p1) (Ji3<|E.stp<|a.tr b) (Ji3<|F.stp<|a.tr b) ai) ?_
 rintro _ aT ⟨aL,ay,aA,aw,aD,rfl,U,Y,Z⟩
 obtain⟨M,e,I⟩:=Ji U 7 R
 have q:=(T7 i g d c a b e)
 refine⟨((T3 a b e).cl R),Ob h λaq aj h=>Jr3 R C70 (kS (κ:=Mk M) (p0:=p2) (Ji3<|G.stp q) (Ji3<|H.stp q) aj) ?_⟩
 rintro _ aV ⟨aM,az,ax,aC,aB,rfl,V,aa,ab⟩
 obtain⟨O,f,J⟩:=Ji V 11 R
 refine⟨((T4 a b e f).cl R),Ob h λa0 ak h=>Jr3 R C69 (qy (κ:=Mk O) (p0:=ap) (p1:=aq) (Ji3 ((Y.mx (cD (bX _) _) I R (R:7+2=9)).stp f).rdc) (Ji3 ((Z.mx (cD (bX _) _) I R (R:7+3=10)).stp f).rdc) (Ji3 (aa.mx (cD (bX _) _) J R (R:11+2=13)).rdc) (Ji3 (ab.mx (cD (bX _) _) J R (R:11+3=14)).rdc) ak) ?_⟩
 rintro _ aW ⟨aN,rfl,W⟩
 obtain⟨av,k,aQ⟩:=Ji W 15 R
 refine⟨((T5 a b e f k).cl R),Jn 1 R ?_⟩
 cases h
 exact Jv1 _ ((T5 a b e f k).cl R) ⟨R,_,(T3 e f k).wk R⟩<|KM R
 rintro _ aX _ ⟨rfl,P,Q⟩
 have h:=ag
 refine Jn 1 R<|Jt1<|Jd<|Ju<|Ja2 (l:=[.tmp 6]) V21 (Jp2 R R) R ?_
 cases h
 exact⟨P,R,(hE.stp<|T7 i g d c a b Q)⟩
theorem nZ {p0:Sig}{m o k n}{p1:Machine}(S:Rd (Rp.sl (Rp.int .i64)) κ w 0 m o p1.Next) (T:Rd (Rp.sl (Rp.int .i64)) κ w 0 k n p1.Out){r:Machine}(h:ia p0 p1=some r):Ret Tryz.prog 23 [.agg #[vi p0.In,vi p0.Out],.agg #[.slice m p1.Next.length o,.slice k p1.Out.length n]] w (λv w'=>∃(κ':Col) (x:Option Addr) (z:Nat) (y:Option Addr) (A:Nat),v= .agg #[.slice x r.Next.length z,.slice y r.Out.length A]/\Ent κ w κ' w'/\Oc (Ep.own E6 2) 37 κ' w' 2 x z r.Next/\Oc (Ep.own E6 2) 37 κ' w' 3 y A r.Out):=by
 unfold ia at h
 refine Jk3 κ F23 R N23 R λhE=>Je [1,1,1] R<|Js3 (κ:=κ) 2 R λX w1 C e O=>Tv<|Js3 (κ:=C) 3 R λY ai D d Q=>Tv<|Jt3 (κ:=D) 4 R X33 R λZ aj B c p=>Tv<|Jd<|Jq<|Je [1,1,1,2] R<|Jb4 tv R (Jc4 (haE (O.stp<|d.tr c).cells) I28 Z28 R) ?_
 have q:=Q.stp c
 refine Jb4 tv R (Jc4 (haE q.cells) I33 Z33 R)<|Ob h λW V h=>?_
 have s:=S.stp (T3 e d c)
 have t:=T.stp (T3 e d c)
 refine Jr3 R C17 (iA (κ:=Mk B) (p0:=p0) (p1:=p1) (Ji3 s) (Ji3 t) V) ?_
 rintro _ ae ⟨ab,rfl,J⟩
 obtain⟨f,a,ad⟩:=Ji J 5 R
 refine Tv<|Jb 1 R ?_
 revert h
 cases aa:(!W)
 refine JF λh=>Jy R<|Js<|Jp<|Je [1,1,1] R<|Jb4 tv R (Jc4 (haE (q.stp a).cells) I33 Z33 R)<|Ob h λak U h=>Jr3 R C70 (kS (κ:=Mk f) (p0:=p1) (Ji3<|s.stp a) (Ji3<|t.stp a) U) ?_
 rintro _ ag ⟨ac,I,G,F,H,rfl,K,M,N⟩
 obtain⟨i,j,u⟩:=Ji K 7 R
 refine Tv<|Jh4 (κ:=i) 4 R Z33 R (p.stp<|a.tr j) R λah g P=>Tv<|Jd<|Ju<|Ja2 (l:=[.cell 4 33]) V23 (ca R P I33 Z33 R R) R ?_
 cases h
 exact⟨(λb=>ren [(9,2),(10,3)]<|i b),I,G,F,H,R,((hE.stp<|T6 e d c a j g).map (ren [(9,2),(10,3)]) R R),(((M.mx (cD (bX _) _) u R (R:7+2=9)).stp g).map (ren [(9,2),(10,3)]) R R),(((N.mx (cD (bX _) _) u R (R:7+3=10)).stp g).map (ren [(9,2),(10,3)]) R R)⟩
 refine JT λh=>Jx R<|Je [2,1] R<|Jf R (Ji4 [.slice none 0 0,.slice none 0 0] R)<|Jh4 (κ:=f) 4 R Z33 R (p.stp a) R λaf E L=>Tv<|Jd<|Ju<|Jw<|Ja2 (l:=[.cell 4 33]) V23 (ca R L I33 Z33 R R) R ?_
 cases h
 exact⟨f,none,0,none,0,R,(hE.stp<|T5 e d c a E),Ow.nil,Ow.nil⟩
end Go.Proofs.YtleekpaohfpooaaGreat
