/- The walks, part 7. By program. -/
import Derived.Test.YtleekpaohfpooaaGreatFns4VF
import Derived.Test.YtleekpaohfpooaaGreatFns5VF
import Derived.Test.YtleekpaohfpooaaGreatFns6VF
set_option linter.unusedVariables false
set_option linter.unusedSimpArgs false
open Go.IntKind renaming wrap → bM
open Sum renaming inr → cb, inl → eg
open Int renaming toNat → hV
namespace Go.Proofs.YtleekpaohfpooaaGreat
open Go Go.Wk Go.Proofs
set_option maxRecDepth 100000
set_option maxHeartbeats 1000000
variable {w:World}{κ:Col}
theorem lK {p0:Sig}{q s t p}{p1:Clause}(T:Rd (Rp.int .i64) κ w 0 q s p1.A) (U:Rd (Rp.int .i64) κ w 0 t p p1.B){r:Bool}(h:iI p0 p1=some r):Ret Tryz.prog 150 [.agg #[vi p0.In,vi p0.Out],.agg #[vi p1.Kind,.slice q p1.A.length s,.slice t p1.B.length p]] w (Pvb κ w r):=by
 unfold iI at h
 refine Jk3 κ F150 R N150 R λy=>Je [1,1,2] R<|Js3 (κ:=κ) 2 R λar w1 B d S=>Tv<|Js3 (κ:=B) 3 R λau aP D c v=>Tv<|Jb 1 R<|Jq<|Je [1,1,2,2,2,1,1,2,2] R ?_
 have x:=S.stp c
 refine Jb4 tv R (Jc4 (haE x.cells) I28 Z28 R)<|Ob h λan ae h=>Jr3 R C58 (iK (κ:=Mk D) (p0:=p0) ae) ?_
 rintro _ ah ⟨aA,rfl,K⟩
 obtain⟨i,a,aG⟩:=Ji K 4 R
 refine Tv<|Jn 2 R<|Ob h λz h V=>Jf4 [2,3] 14 z i ah [(4,2),(5,1),(6,1),(7,2),(8,2)] [] tv ?_ ?_
 revert h
 cases av:(!an)
 refine JF λh=>Jd3 R U67 R Z2<|Jb3 R I2 ((v.stp a).ld 0 R R)<|Ob h λaT Z h=>Jr3 R C59 (de (κ:=Mk i) Z) ?_
 rintro _ aM ⟨aB,rfl,M⟩
 obtain⟨ao,G,aH⟩:=Ji M 6 R
 refine Tv<|Jn 2 R ?_
 cases h
 exact Jv1 _ tv ⟨R,_,G.wk R⟩<|KM R
 refine JT λh=>Jn 1 R<|Jz3 R<|Jz3 R<|Jn 2 R ?_
 cases h
 exact Jg4 tv R
 rintro _ aN _ ⟨rfl,j,b⟩
 have h:=V
 refine Jd ?_
 revert h
 cases aw:z
 refine JF λh=>Jy R<|Js<|Jp<|Je [1,1,2] R<|Jb4 tv R (Jc4 (haE (x.stp<|a.tr b).cells) I28 Z28 R)<|Ob h λaU aa h=>Jr3 R C120 (fh (κ:=Mk j) (p0:=p0) aa) ?_
 rintro _ aO ⟨aC,rfl,N⟩
 obtain⟨C,e,aI⟩:=Ji N 6 R
 refine Tv<|Jb 1 R<|Je [2,1,2,1,2,2,1,2,1,2,2,2,1,1,2,2,1,2,2,2,2,2] R<|Jd3 R U67 R Z37 ?_
 have g:=v.stp (T3 a b e)
 refine Jb3 R I37 (g.ld 1 R R)<|Jn 1 R<|Ob h λal ab h=>Jr3 R C158 (mw (κ:=Mk C) (Ji3<|T.stp<|T5 d c a b e) ab) ?_
 rintro _ ai ⟨aD,rfl,O⟩
 obtain⟨k,f,aJ⟩:=Ji O 8 R
 refine Tv<|Jn 1 R<|Ob h λA h W=>Jf4 [3] 26 A k ai [(5,2),(6,1),(7,2),(8,1),(9,2)] [(10,2),(11,2),(12,1),(13,1),(14,2),(15,2),(16,1),(17,2),(18,2),(19,2),(20,2),(21,2)] tv ?_ ?_
 revert h
 cases ax:al
 refine JF λh=>Jn 1 R<|Jz3 R<|Jn 1 R<|Jz3 R<|Jn 1 R ?_
 cases h
 exact Jg4 tv R
 refine JT λh=>Jd3 R U67 R Z37<|Jb3 R I37 ((g.stp f).ld 2 R R)<|Jn 1 R<|Ob h λaV ac h=>Jr3 R C158 (mw (κ:=Mk k) (Ji3<|U.stp<|T6 d c a b e f) ac) ?_
 rintro _ aQ ⟨aE,rfl,P⟩
 obtain⟨ap,H,aK⟩:=Ji P 10 R
 refine Tv<|Jn 1 R ?_
 cases h
 exact Jv1 _ tv ⟨R,_,H.wk R⟩<|KM R
 rintro _ aj _ ⟨rfl,m,n⟩
 have h:=W
 refine Jn 1 R<|Ob h λag h X=>Ju1 [(11,2),(12,1),(13,1),(14,2),(15,2),(16,1),(17,2),(18,2),(19,2),(20,2)] [(21,2)] (λL w'=>L=[(37,.bool ag)]/\∃κ',Stp [] m aj κ' w') tv ?_ ?_
 revert h
 cases ay:A
 refine JF λh=>Jn 1 R<|Jz3 R<|Jz3 R<|Jn 2 R<|Jz3 R<|Jn 4 R ?_
 cases h
 exact Jg4 tv R
 refine JT λh=>Jd3 R U67 R Z2 ?_
 have u:=g.stp (f.tr n)
 refine Jb3 R I2 (u.ld 0 R R)<|Ob h λam ad h=>Jr3 R C211 (sD (κ:=Mk m) ad) ?_
 rintro _ ak ⟨aF,rfl,Q⟩
 obtain⟨E,o,aL⟩:=Ji Q 10 R
 refine Tv<|Jn 1 R<|Ob h λaf h Y=>Jf4 [27] 36 af E ak [(15,2),(16,1),(17,2),(18,2),(19,2)] [(20,2)] tv ?_ ?_
 revert h
 cases az:am
 refine JF λh=>Jd3 R U67 R Z37<|Jb3 R I37 ((u.stp o).ld 2 R R)<|Jn3 R U37 R R<|Jn 2 R ?_
 cases h
 exact Jg4 tv R
 refine JT λh=>Jn 1 R<|Jz3 R<|Jn 3 R ?_
 cases h
 exact Jg4 tv R
 rintro _ aR _ ⟨rfl,aq,I⟩
 have h:=Y
 refine Jn 1 R ?_
 cases h
 exact Jv1 _ tv ⟨R,_,(o.tr I).wk R⟩<|KM R
 rintro _ aS _ ⟨rfl,F,J⟩
 have h:=X
 refine Jb 1 R<|Ju<|Ja2 (l:=[.tmp 4]) V150 (Jp2 R R) R ?_
 cases h
 exact⟨F,R,(y.stp<|T8 d c a b e f n J)⟩
 refine JT λh=>Jx R<|Je3 R<|Ju<|Jw<|Ja2 (l:=[.tmp 4]) V150 (Jp2 R R) R ?_
 cases h
 exact⟨j,R,(y.stp<|T4 d c a b)⟩
theorem oc {c d}{p0:(List Int)}{p1:Int}(k:Rd (Rp.int .i64) κ w 0 c d p0){r:Bool}(h:lC p0 p1=some r):Ret Tryz.prog 80 [.slice c p0.length d,vi p1] w (Pvb κ w r):=by
 unfold lC at h
 refine Jk3 κ F80 R N80 R λm=>Je3 R<|Jg3 [2,1,2,2,2,1,2,2] 1 R<|Ob h λs p h=>Jr3 R C59 (de (κ:=Mk κ) p) ?_
 rintro _ w1 ⟨x,rfl,j⟩
 obtain⟨a,b,z⟩:=Ji j 2 R
 refine Tv<|Jn 1 R<|Ob h λq h n=>Jf4 [4] 11 q a w1 [(3,2),(4,2),(5,1),(6,2)] [(7,2)] tv ?_ ?_
 revert h
 cases u:s
 refine JF λh=>Jn 2 R<|Jz3 R<|Jn 1 R ?_
 cases h
 exact Jg4 tv R
 refine JT λh=>Jn 2 R<|Ob h λC o h=>Jr3 R C158 (mw (κ:=Mk a) (Ji3<|k.stp b) o) ?_
 rintro _ A ⟨v,rfl,i⟩
 obtain⟨t,f,y⟩:=Ji i 4 R
 refine Tv<|Jn 1 R ?_
 cases h
 exact Jv1 _ tv ⟨R,_,f.wk R⟩<|KM R
 rintro _ B _ ⟨rfl,e,g⟩
 have h:=n
 refine Jb 1 R<|Ju<|Ja2 (l:=[.tmp 4]) V80 (Jp2 R R) R ?_
 cases h
 exact⟨e,R,(m.stp<|b.tr g)⟩
theorem qR {p0:Sig}{A C B D}{p1:Det}{p2:Int}{p3:Int}(I:Rd (Rp.sl (Rp.int .i64)) κ w 0 A C p1.Next) (aB:Rd Pair.rp κ w 0 B D p1.Pairs){r:(List Int)}(h:kX p0 p1 p2 p3=some r):Ret Tryz.prog 130 [.agg #[vi p0.In,vi p0.Out],.agg #[.slice A p1.Next.length C,.slice B p1.Pairs.length D],vi p2,vi p3] w (λv w'=>∃(κ':Col) (O:Option Addr) (P:Nat),v= .slice O r.length P/\Ent κ w κ' w'/\Rd (Rp.int .i64) κ' w' 0 O P r):=by
 unfold kX at h
 refine Jk3 κ F130 R N130 R λal=>Je [1,1,2] R<|Js3 (κ:=κ) 2 R λaz w1 S y ai=>Tv<|Js3 (κ:=S) 3 R λaA aQ X u ak=>Tv<|Jb 1 R<|Je [1,2] R<|Jx3 (κ:=X) (E:=E6) 4 R Y37 bS R λaa ac x Q g ag=>Tv<|Jb 1 R<|Jq<|Je3 R<|Ob h λN ao am=>?_
 clear h
 obtain⟨s,i,aw⟩:=lr Q x 4
 refine Jx1 (λL w'=>∃κ',∃q:(List Int)×Int,∃n o,L=[(9,.slice n q.1.length o)]/\Stp [] s x κ' w'/\Rd (Rp.int .i64) κ' w' 0 n o q.1/\N=cb q) ?_ ?_
 refine Jv<|Jp3 [2,3,4,5] (λk E L w'=>∃κ',∃c:(List Int)×Int,∃p m,L=(9,.slice p c.1.length m)::(10,vi c.2)::E/\Stp [] s x κ' w'/\Rd (Rp.int .i64) κ' w' 0 p m c.1/\cu (iC p0 p1 p2 p3) k c=some N) ⟨_,_,⟨s,((([]:List Int):(List Int)),(0:Int)),aa,ac,R,Jj3,(Sl.st aw ag.rdc),ao⟩,(KM R)⟩ ?_
 rintro k _ aM ⟨U,c,p,m,rfl,e,F,h⟩
 rcases k with _ | k
 cases h
 obtain⟨aJ,h,J⟩:=BI h;unfold iC at h
 refine Jq<|Jg3 [2,2,1,1,2] 1 R<|Jd3 R U28 R Z2 ?_
 have G:=ai.stp (T4 u g i e)
 refine Jb3 R I2 (G.ld 1 R R)<|Ob h λau ap h=>Jr3 R C62 (dI (κ:=Mk U) ap) ?_
 rintro _ aN ⟨aD,rfl,ad⟩
 obtain⟨t,d,aG⟩:=Ji ad 5 R
 refine Tv<|Jb 1 R ?_
 revert h
 cases aC:decide (c.2<au)
 refine JF λh=>Jy R<|Jc1<|Jt<|Jt ?_
 cases h
 have h:=J
 refine Jb1 ?_
 cases h
 exact Jw1 _ ⟨t,(c.1,c.2),p,m,R,(e.tr d).wk R,(F.stp d),R⟩<|KM R
 refine JT λh=>Jx R<|Js<|Jp<|Jq<|Jv<|Js1 (κ:=t) [0,2,3] none [(0,2),(1,2),(3,2),(7,2),(8,2),(2,0),(4,2),(5,0),(6,0),(9,1),(10,2),(11,0),(12,1),(13,2)] [] (by kernel_rfl) (by kernel_rfl) λaO f=>Jn 1 R<|Jd3 R U71 R Z31<|Jn 3 R<|Jg R (Jc2 I31 R R<|hvC ((ak.stp<|T5 g i e d f).ld 0 R R) R)<|Ob h λaS K h=>Jc3 R I K U31 Z37 ?_
 obtain⟨ay,aK,H,an⟩:=(I.stp (T7 y u g i e d f)).gSl K
 refine Jg R (Jc2 I37 R R<|hvC an R)<|Jg R (Jc4 (haC (G.stp<|d.tr f).cells R) I28 Z28 R)<|Ob h λaT aq h=>Jr3 R C94 (nP (κ:=Mk t) (p0:=p0) aq) ?_
 rintro _ aP ⟨aE,rfl,ae⟩
 obtain⟨V,j,aH⟩:=Ji ae 7 R
 refine⟨(j.cl R),Ob h λaU M h=>Jc3 R H M U37 Z2<|Jg R (Jc2 I2 R R<|hvC (H.gInt M) R)<|Ob h λav ar h=>Jr3 R C96 (tQ (κ:=λb=>mp [] 1<|V b) (Jl2 (F.stp<|T3 d f j) (mp [] 1) R R) ar) ?_⟩
 rintro _ aR ⟨aF,ab,Z,rfl,af,aj⟩
 obtain⟨W,z,aI,ax⟩:=Jj af 9 R
 refine⟨((j.tr z).cl R),Jn 1 R<|Jt1<|Jo<|Jz<|Jp<|Jf3 R ?_⟩
 cases h
 exact Jz1 λa ha=>⟨k,_,Ja3 _,⟨W,(av,((IntKind.i64.wrap<|c.2+1):Int)),ab,Z,R,(T5 e d f j z).wk R,(aj.mx ax),J⟩,(ha.mm R)⟩
 rintro _ aL ⟨T,q,n,o,rfl,Y,ah,rfl⟩
 have h:=yI am
 refine Jp<|Je3 R<|Ju<|Ja2 (l:=[.tmp 8]) V130 (Jp2 R R) R ?_
 cases h
 exact⟨T,n,o,R,(al.stp<|T5 y u g i Y),ah⟩
theorem oH {C A D B}{p0:Arena}(t:Rd (Rp.int .i64) κ w 0 C A p0.Owner) (j:Rd (Rp.sl (Rp.int .i64)) κ w 0 D B p0.Next){r:Bool}(h:kz p0=some r):Ret Tryz.prog 132 [.agg #[.slice C p0.Owner.length A,.slice D p0.Next.length B]] w (Pvb κ w r):=by
 unfold kz at h
 refine Jk3 κ F132 R N132 R λu=>Je [1,2] R<|Js3 (κ:=κ) 2 R λaF w1 T g q=>Tv<|Jb 1 R<|Je [2,1,2,2] R<|Jd3 R U75 R Z37<|Jb3 R I37 (q.ld 0 R R)<|Jn3 R U37 R R<|Jb 1 R<|Jq<|Jg3 [2,1,2,2,2,1,2,2,1,2,2,2] 1 R<|Ob h λaA ar h=>Jr3 R C59 (de (κ:=Mk T) ar) ?_
 rintro _ ax ⟨aQ,rfl,ac⟩
 obtain⟨X,b,aS⟩:=Ji ac 3 R
 refine Tv<|Jn 2 R<|Ob h λM h ae=>Jf4 [1,3] 19 M X ax [(4,2),(5,1),(6,2),(7,2),(8,1),(9,2),(10,2),(11,2)] [] tv ?_ ?_
 revert h
 cases aJ:(!aA)
 refine JF λh=>Jd3 R U75 R Z31 ?_
 have F:=q.stp b
 refine Jb3 R I31 (F.ld 1 R R)<|Jn3 R U31 R R<|Jd3 R U75 R Z37<|Jb3 R I37 (F.ld 0 R R)<|Jn3 R U37 R R<|Jn 2 R ?_
 cases h
 exact Jg4 tv R
 refine JT λh=>Jn 1 R<|Jz3 R<|Jn 2 R<|Jz3 R<|Jn 3 R ?_
 cases h
 exact Jg4 tv R
 rintro _ S _ ⟨rfl,o,d⟩
 have h:=ae
 refine Jd ?_
 revert h
 cases aK:M
 refine JF λh=>Jy R<|Js<|Jp<|Jq<|Je3 R ?_
 have ai:(p0.Owner.length:Int)<=9223372036854775807:=t.len_le
 refine Ob h λQ an G=>?_
 clear h
 refine Jx1 (λL w'=>∃κ',L=[]/\Stp [] o S κ' w'/\Q=cb ()) ?_ ?_
 refine Jv<|Jp3 [1,3] (λk E L w'=>∃κ' c,L=(4,vi c)::E/\Stp [] o S κ' w'/\0<=c/\hV ((p0.Owner.length:Int)-c)=k/\cntM (jm p0) k c ()=some Q) ⟨_,_,⟨o,0,R,Jj3,(by decide),(by simp),an⟩,(KM R)⟩ ?_
 rintro k _ aZ ⟨v,c,rfl,e,aj,aI,h⟩
 rcases k with _ | k
 have s:=h;obtain⟨au,h⟩:=cw (cb (eg ()):Bool⊕((Unit)⊕(Unit)))
 have m:decide (c<(p0.Owner.length:Int))=false:=Jo2 (by omega)
 refine Jq<|Jg3 [2,2,1,2,2] 1 R<|Jd3 R U75 R Z37<|Jb3 R I37 ((q.stp<|T3 b d e).ld 0 R R)<|Jn3 R U37 R R<|Jb 1 R<|Jw2 R m<|Jc1<|Jt<|Jt ?_
 cases h
 have h:=s
 refine Jb1 ?_
 cases h
 exact Jw1 _ ⟨v,R,e.wk R,R⟩ KN
 obtain⟨au,h,s⟩:=BI h;unfold jm at h
 have m:decide (c<(p0.Owner.length:Int))=true:=Jn2 (by omega)
 refine Jq<|Jg3 [2,2,1,2,2] 1 R<|Jd3 R U75 R Z37 ?_
 have n:=q.stp (T3 b d e)
 refine Jb3 R I37 (n.ld 0 R R)<|Jn3 R U37 R R<|Jb 1 R<|Jv2 R m<|Js<|Jp<|Jq<|Jv<|Je [2,1,2,2,1,1,2,2,2,1,2,2,1,2,2,2,2,2,1,2,2,1,2,2,2,2,2,1,2,2,1,2,1,2,2] R<|Jd3 R U75 R Z37<|Jb3 R I37 (n.ld 0 R R)<|Jn 1 R<|Ob h λa2 H h=>Jc3 R t H U37 Z2<|Jb3 R I2 ((t.stp<|T4 g b d e).gInt H)<|Ob h λaz ap h=>Jr3 R C59 (de (κ:=Mk v) ap) ?_
 rintro _ av ⟨aP,rfl,aa⟩
 obtain⟨V,f,aT⟩:=Ji aa 5 R
 refine Tv<|Jn 2 R<|Ob h λN h af=>Jf4 [1,3,4] 42 N V av [(8,2),(9,1),(10,2),(11,2),(12,1),(13,2),(14,2),(15,2)] [(16,2),(17,2),(18,1),(19,2),(20,2),(21,1),(22,2),(23,2),(24,2),(25,2),(26,2),(27,1),(28,2),(29,2),(30,1),(31,2),(32,1),(33,2),(34,2)] tv ?_ ?_
 revert h
 cases aL:(!az)
 refine JF λh=>Jd3 R U75 R Z31<|Jb3 R I31 ((n.stp f).ld 1 R R)<|Jn 1 R<|Ob h λa3 I h=>Jc3 R j I U31 Z37 ?_
 obtain⟨aC,aV,aG,ak⟩:=(j.stp (T5 g b d e f)).gSl I
 refine Jb3 R I37 ak<|Jn3 R U37 R R<|Jn 2 R ?_
 cases h
 exact Jg4 tv R
 refine JT λh=>Jn 1 R<|Jz3 R<|Jn 2 R<|Jz3 R<|Jn 3 R ?_
 cases h
 exact Jg4 tv R
 rintro _ aw _ ⟨rfl,W,i⟩
 have h:=af
 refine Jn 1 R<|Ob h λO h ag=>Jf4 [1,3,4] 51 O W aw [(17,2),(18,1),(19,2),(20,2),(21,1),(22,2),(23,2),(24,2)] [(25,2),(26,2),(27,1),(28,2),(29,2),(30,1),(31,2),(32,1),(33,2),(34,2)] tv ?_ ?_
 revert h
 cases aM:N
 refine JF λh=>Jd3 R U75 R Z31<|Jb3 R I31 ((n.stp<|f.tr i).ld 1 R R)<|Jn 1 R<|Ob h λa4 J h=>Jc3 R j J U31 Z37 ?_
 obtain⟨aD,aW,aH,al⟩:=(j.stp (T6 g b d e f i)).gSl J
 refine Jb3 R I37 al<|Jn3 R U37 R R<|Jn 2 R ?_
 cases h
 exact Jg4 tv R
 refine JT λh=>Jn 1 R<|Jz3 R<|Jn 2 R<|Jz3 R<|Jn 3 R ?_
 cases h
 exact Jg4 tv R
 rintro _ ay _ ⟨rfl,x,p⟩
 have h:=ag
 refine Jn 1 R<|Ob h λP h ah=>Jf4 [1,3,4] 61 P x ay [(26,2),(27,1),(28,2),(29,2),(30,1),(31,2),(32,1),(33,2),(34,2)] [] tv ?_ ?_
 revert h
 cases aN:O
 refine JF λh=>Jd3 R U75 R Z31<|Jb3 R I31 ((n.stp<|T3 f i p).ld 1 R R)<|Jn 1 R<|Ob h λa5 K h=>Jc3 R j K U31 Z37 ?_
 obtain⟨aE,aX,ad,am⟩:=(j.stp (T7 g b d e f i p)).gSl K
 refine Jb3 R I37 am<|Jn 1 R<|Ob h λa6 aq h=>Jr3 R C158 (mw (κ:=Mk x) (Ji3 ad) aq) ?_
 rintro _ a0 ⟨aR,rfl,ab⟩
 obtain⟨aB,Z,aU⟩:=Ji ab 7 R
 refine Tv<|Jn 2 R ?_
 cases h
 exact Jv1 _ tv ⟨R,_,Z.wk R⟩<|KM R
 refine JT λh=>Jn 1 R<|Jz3 R<|Jn 2 R<|Jz3 R<|Jn 1 R<|Jz3 R<|Jn 2 R ?_
 cases h
 exact Jg4 tv R
 rintro _ a1 _ ⟨rfl,y,z⟩
 have h:=ah
 refine Jd ?_
 revert h
 cases aO:P
 refine JF λh=>Jy R<|Js<|Jz<|Jp<|Jf3 R ?_
 have ao:bM .i64 (c+1)=c+1:=wr1 aj (Jm2 m) ai
 rw[ao]
 have m:=Jm2 m
 cases h
 exact Jz1 λa ha=>⟨k,_,Ja3 _,⟨y,c+1,R,(T5 e f i p z).wk R,by omega,by omega,s⟩,(ha.mm R)⟩
 refine JT λh=>Jx R<|Je3 R<|Ju<|Ja1<|Jw<|Jw ?_
 cases h
 obtain rfl:=Option.some.inj s
 have h:=yL G
 refine Ja1<|Jq2<|Jw<|Ja2 (l:=[.tmp 2]) V132 (Jp2 R R) R ?_
 cases h
 exact⟨y,R,(u.stp<|T8 g b d e f i p z)⟩
 rintro _ aY ⟨U,rfl,Y,rfl⟩
 have h:=yI G
 refine Jp<|Je3 R<|Ju<|Ja2 (l:=[.tmp 2]) V132 (Jp2 R R) R ?_
 cases h
 exact⟨U,R,(u.stp<|T4 g b d Y)⟩
 refine JT λh=>Jx R<|Je3 R<|Ju<|Jw<|Ja2 (l:=[.tmp 2]) V132 (Jp2 R R) R ?_
 cases h
 exact⟨o,R,(u.stp<|T3 g b d)⟩
theorem qz (n:Nat):∀{w:World}{κ:Col}{ae ag af ab Y ad Z ah ac aa}{p0:l7Game}{a1 am}{p1:(List Bool)}(aG:Rd (Rp.int .i64) κ w 0 ae ag p0.owner) (aH:Rd (Rp.int .i64) κ w 0 af ab p0.prio) (aI:Rd (Rp.sl (Rp.int .i64)) κ w 0 Y ad p0.next) (aJ:Rd (Rp.sl (Rp.int .i64)) κ w 0 Z ah p0.prev) (aK:Rd (Rp.int .i64) κ w 0 ac aa p0.pick) (aL:Rd Rp.bool κ w 0 a1 am p1){r:(List Bool)}(h:lF n p0 p1=some r),Ret Tryz.prog 250 [.agg #[.slice ae p0.owner.length ag,.slice af p0.prio.length ab,.slice Y p0.next.length ad,.slice Z p0.prev.length ah,.slice ac p0.pick.length aa],.slice a1 p1.length am] w (Pvs Ep.bool 4 κ w r):=by
 induction n with
 | zero=>
  intro w κ ae ag af ab Y ad Z ah ac aa p0 a1 am p1 aG aH aI aJ aK aL r h
  cases h
 | succ n bR=>
  intro w κ ae ag af ab Y ad Z ah ac aa p0 a1 am p1 aG aH aI aJ aK aL r h
  have h:jP (lF n) p0 p1=some r:=h
  unfold jP at h
  refine Jk3 κ F250 R N250 R λaM=>Je [1,2] R<|Js3 (κ:=κ) 2 R λek w1 cf u aE=>Tv<|Jb 1 R<|Je [1,2,1,2] R<|Jb4 tv R (Jc4 (haE aE.cells) I210 Z210 R)<|Jn 1 R<|Ob h λS dw h=>?_
  have bk:=aG.stp u
  have ai:=aH.stp u
  have bs:=aI.stp u
  have bt:=aJ.stp u
  have bB:=aK.stp u
  have Q:=aL.stp u
  refine Jr3 R C270 (uM (κ:=Mk cf) (p0:=p0) (Ji3 bk) (Ji3 ai) (Ji3 bs) (Ji3 bt) (Ji3 bB) (Ji3 Q) dw) ?_
  rintro _ eF ⟨ex,rfl,cx⟩
  obtain⟨ca,g,eE⟩:=Ji cx 3 R
  refine Tv<|Jb 1 R<|Jg3 [2,2,1,2] 1 R<|Jn3 R U178 R R<|Ob h λx dx h=>Jl1 (κ:=ca) (E:=Ep.bool) (z:=(false:Bool)) 5 R R R R R R R Y178 fQ R R R R R (λ_ _ _=>R) (Ju2 dx) λA y eM aY i aB=>Tv<|Jb 1 R<|Jq<|Je3 R ?_
  revert h
  cases et:decide (S<0)
  refine JF λh=>Jy R<|Js<|Jp<|Jg3 [2,2,2] 1 R<|Jf R (xe R R R (by decide))<|Jb 1 R<|Jg3 [2,2,1,2] 1 R<|Jn3 R U178 R R<|Ob h λan dy h=>Jl1 (κ:=aY) (E:=Ep.bool) (z:=(false:Bool)) 6 R R R R R R R Y178 fQ R R R R R (λ_ _ _=>R) (Ju2 dy) λa9 a8 b0 au d cN=>Tv<|Jb 1 R<|Jq<|Je3 R ?_
  have c6:(p1.length:Int)<=9223372036854775807:=Q.len_le
  refine Ob h λbU dl c1=>?_
  clear h
  refine Jo3 [1,2,6,7,8] (λE L w'=>∃κ',∃ak:(List Bool),L=E/\Stp [6] au b0 κ' w'/\Oc Ep.bool 4 κ' w' 6 a9 a8 ak/\an.length=ak.length/\bU=cb ak) ?_ ?_
  refine Jv<|Jp3 [1,2,5,6,7,8] (λk E L w'=>∃κ' t,∃J:(List Bool),L=(9,vi t)::E/\Stp [6] au b0 κ' w'/\Oc Ep.bool 4 κ' w' 6 a9 a8 J/\an.length=J.length/\0<=t/\hV ((p1.length:Int)-t)=k/\cntM (lc p0 p1 S) k t J=some bU) ⟨_,_,⟨au,0,an,R,Jj3,cN,R,(by decide),(by simp),dl⟩,(KM R)⟩ ?_
  rintro k _ dX ⟨aZ,t,J,rfl,X,aD,aU,da,eo,h⟩
  rcases k with _ | k
  have aQ:=h;obtain⟨dO,h⟩:=cw (cb (eg J):(List Bool)⊕(((List Bool))⊕((List Bool))))
  have I:decide (t<(p1.length:Int))=false:=Jo2 (by omega)
  refine Jq<|Jg3 [2,2,2,2] 2 R<|Jn3 R U178 R R<|Jb 1 R<|Jw2 R I<|Jc1<|Jt<|Jt ?_
  cases h
  have h:=aQ
  refine Jb1 ?_
  cases h
  exact Jw1 _ ⟨aZ,J,R,X.wk R,aD,aU,R⟩<|KM R
  obtain⟨dO,h,aQ⟩:=BI h;unfold lc at h
  have I:decide (t<(p1.length:Int))=true:=Jn2 (by omega)
  refine Jq<|Jg3 [2,2,2,2] 2 R<|Jn3 R U178 R R<|Jb 1 R<|Jv2 R I<|Js<|Jp<|Jq<|Jv<|Jh3 [2,2,2,2,2,1,2,2,1,2,2,1,2,2,2,2,1] 4 R<|Ob h λd3 bH h=>Jc3 R Q bH U178 Z4<|Jb3 R I4 ((Q.stp<|T4 g i d X).gBool bH)<|Jn 1 R<|Ob h λdS h c2=>Jf4 [1,2,5,6,7,8,9,39,40] 53 dS aZ dX [(7,2),(8,1),(9,2),(10,2),(11,1),(12,2),(13,2),(14,2)] [(15,2),(16,1)] tv ?_ ?_
  revert h
  cases ew:d3
  refine JF λh=>Jn 1 R<|Jz3 R<|Jn 2 R<|Jz3 R<|Jn 3 R ?_
  cases h
  exact Jg4 tv R
  have a0:=(T4 g i d X)
  refine JT λh=>Jd3 R U210 R Z37<|Jb3 R I37 ((aE.stp a0).ld 1 R R)<|Jn 1 R<|Ob h λe3 bI h=>Jc3 R ai bI U37 Z2<|Jb3 R I2 ((ai.stp a0).gInt bI)<|Jn 3 R ?_
  cases h
  exact Jg4 tv R
  rintro _ eV _ ⟨rfl,ck,a6⟩
  have h:=c2
  refine Ob h λe4 dz h=>Jf R (Jf2 aD.rdc dz U178 Z4 R R aU R)<|Ob h λb2 bN h=>Jk1 (κ:=ck) (E:=Ep.bool) 6 [] R R R R R R R R Z4 R R R R (aD.stp a6) bN λeW cl cv cP=>Tv<|?_
  have dh:an.length=b2.length:=aU.trans (Jt2 bN).2.2.2.symm
  refine Jo<|Jz<|Jp<|Jf3 R ?_
  have dq:bM .i64 (t+1)=t+1:=wr1 da (Jm2 I) c6
  rw[dq]
  have I:=Jm2 I
  cases h
  exact Jz1 λa ha=>⟨k,_,Ja3 _,⟨cl,t+1,b2,R,(T3 X a6 cv).wk R,cP,dh,by omega,by omega,aQ⟩,(ha.mm R)⟩
  rintro _ eU ⟨cj,ak,rfl,m,cO,dg,rfl⟩
  have h:=yI c1
  refine Jp<|Jg3 [2,1,2,2,2,1,1,2] 1 R ?_
  have bl:=aE.stp (T4 g i d m)
  refine Jb4 tv R (Jc4 (haE bl.cells) I210 Z210 R)<|Jn 3 R<|Ob h λe5 dA h=>?_
  have bm:=bk.stp (T4 g i d m)
  have bn:=ai.stp (T4 g i d m)
  have bo:=bs.stp (T4 g i d m)
  have bp:=bt.stp (T4 g i d m)
  have bq:=bB.stp (T4 g i d m)
  have br:=Q.stp (T4 g i d m)
  refine Jr3 R C272 (Ret.cast (by simp only[dg,List.cons_append,List.nil_append])<|nj (κ:=Mk cj) (p0:=p0) (Ji3 bm) (Ji3 bn) (Ji3 bo) (Ji3 bp) (Ji3 bq) (Ji3 br) (Ji3 cO.rdc) dA) ?_
  rintro _ eX ⟨eB,ei,eb,rfl,cB,cQ⟩
  obtain⟨cm,o,dI⟩:=Ji cB 7 R
  refine Tv<|Ob h λd4 dB h=>?_
  have D:=br.stp o
  refine Jr3 R C271 (pq (κ:=Mk cm) (Ji3 D) (Ji3 (cQ.mx eS dI R (R:7+2=9)).rdc) dB) ?_
  rintro _ eY ⟨eC,ed,ef,rfl,cC,cR⟩
  obtain⟨cn,j,dJ⟩:=Ji cC 10 R
  refine Tv<|?_
  have aF:=cR.mx eS dJ R (R:10+2=12)
  refine Jb 1 R<|Je [1,2,1,2] R ?_
  have bu:=bl.stp (o.tr j)
  refine Jb4 tv R (Jc4 (haE bu.cells) I210 Z210 R)<|Jn 1 R<|Ob h λd5 dC h=>?_
  have bv:=bm.stp (o.tr j)
  have bw:=bn.stp (o.tr j)
  have bx:=bo.stp (o.tr j)
  have bz:=bp.stp (o.tr j)
  have bA:=bq.stp (o.tr j)
  refine Jr3 R C250 (bR (κ:=Mk cn) (p0:=p0) (Ji3 bv) (Ji3 bw) (Ji3 bx) (Ji3 bz) (Ji3 bA) (Ji3 aF.rdc) dC) ?_
  rintro _ eZ ⟨eD,eh,ee,rfl,cD,cS⟩
  obtain⟨co,e,dK⟩:=Ji cD 13 R
  refine Tv<|?_
  have bC:=cS.mx eS dK R (R:13+2=15)
  refine Jb 1 R<|Jg3 [2,2,1,2] 1 R<|Jn3 R U178 R R<|Ob h λao dD h=>Jl1 (κ:=co) (E:=Ep.bool) (z:=(false:Bool)) 16 R R R R R R R Y178 fQ R R R R R (λ_ _ _=>R) (Ju2 dD) λba a7 b1 av c cE=>Tv<|Jb 1 R<|Je3 R<|Jq<|Je3 R ?_
  have c3:(p1.length:Int)<=9223372036854775807:=D.len_le
  refine Ob h λbV di cT=>?_
  clear h
  refine Jo3 [1,2,6,7,12] (λE L w'=>∃κ',∃M:Bool×(List Bool),L=(13,.bool M.1)::E/\Stp [16] av b1 κ' w'/\Oc Ep.bool 4 κ' w' 16 ba a7 M.2/\ao.length=M.2.length/\bV=cb M) ?_ ?_
  refine Jv<|Jp3 [1,2,6,7,10,11,12] (λk E L w'=>∃κ' p,∃v:Bool×(List Bool),L=(13,.bool v.1)::(14,vi p)::E/\Stp [16] av b1 κ' w'/\Oc Ep.bool 4 κ' w' 16 ba a7 v.2/\ao.length=v.2.length/\0<=p/\hV ((p1.length:Int)-p)=k/\cntM (jO S d4 d5) k p v=some bV) ⟨_,_,⟨av,0,(false,ao),R,Jj3,cE,R,(by decide),(by simp),di⟩,(KM R)⟩ ?_
  rintro k _ dU ⟨aV,p,v,rfl,U,ax,aR,c7,el,h⟩
  rcases k with _ | k
  have aN:=h;obtain⟨dL,h⟩:=cw (cb (eg v):(List Bool)⊕((Bool×(List Bool))⊕(Bool×(List Bool))))
  have F:decide (p<(p1.length:Int))=false:=Jo2 (by omega)
  refine Jq<|Jg3 [2,2,2,2] 2 R<|Jn3 R U178 R R<|Jb 1 R<|Jw2 R F<|Jc1<|Jt<|Jt ?_
  cases h
  have h:=aN
  refine Jb1 ?_
  cases h
  exact Jw1 _ ⟨aV,(v.1,v.2),R,U.wk R,ax,aR,R⟩<|KM R
  obtain⟨dL,h,aN⟩:=BI h;unfold jO at h
  have F:decide (p<(p1.length:Int))=true:=Jn2 (by omega)
  refine Jq<|Jg3 [2,2,2,2] 2 R<|Jn3 R U178 R R<|Jb 1 R<|Jv2 R F<|Js<|Jp<|Jq<|Jv<|Jg3 [2,2,2,2,2,1,2,2,2,2,1,2,2,2,2,2,1] 4 R<|Ob h λd6 bJ h=>Jc3 R aF.rdc bJ U178 Z4<|Jb3 R I4 ((aF.stp<|T3 e c U).rdc.gBool bJ)<|Jn 1 R<|Ob h λdT h cU=>Jf4 [1,2,6,7,10,11,12,13,14,74,75] 88 dT aV dU [(7,2),(8,2),(9,2),(10,1),(11,2),(12,2),(13,2),(14,2)] [(15,2),(16,1)] tv ?_ ?_
  revert h
  cases ep:d6
  refine JF λh=>Jn 3 R<|Jz3 R<|Jn 4 R ?_
  cases h
  exact Jg4 tv R
  refine JT λh=>Jn 2 R<|Ob h λe6 bK h=>Jc3 R bC.rdc bK U178 Z4<|Jb3 R I4 ((bC.stp<|c.tr U).rdc.gBool bK)<|Jn 2 R<|Jf R (pG R R U4 R)<|Jn 1 R ?_
  cases h
  exact Jg4 tv R
  rintro _ eG _ ⟨rfl,b6,a2⟩
  have h:=cU
  refine Ob h λe7 dE h=>Jf R (Jf2 ax.rdc dE U178 Z4 R R aR R)<|Ob h λb3 bO h=>Jk1 (κ:=b6) (E:=Ep.bool) 16 [] R R R R R R R R Z4 R R R R (ax.stp a2) bO λdV b7 cp ay=>Tv<|?_
  have bD:ao.length=b3.length:=aR.trans (Jt2 bO).2.2.2.symm
  refine Jd<|Jh3 [2,2,2,2,2,1,2,2] 2 R<|Ob h λbS h cV=>Jf4 [1,2,6,7,10,11,12,13,14] 96 bS b7 dV [(2,2),(3,2),(4,2),(5,1),(6,2)] [(7,2)] tv ?_ ?_
  revert h
  cases eq:v.1
  refine JF λh=>Jn 2 R<|Ob h λe8 bL h=>Jf R (Jf2 ay.rdc bL U178 Z4 R R bD R)<|Jb3 R I4 (ay.rdc.gBool bL)<|Jn 1 R ?_
  cases h
  exact Jg4 tv R
  refine JT λh=>Jn 3 R<|Jz3 R<|Jn 1 R ?_
  cases h
  exact Jg4 tv R
  rintro _ eH _ ⟨rfl,b8,a3⟩
  have h:=cV
  refine Jc 1 R<|Jz<|Jp<|Jf3 R ?_
  have dm:bM .i64 (p+1)=p+1:=wr1 c7 (Jm2 F) c3
  rw[dm]
  have F:=Jm2 F
  cases h
  exact Jz1 λa ha=>⟨k,_,Ja3 _,⟨b8,p+1,(bS,b3),R,(T4 U a2 cp a3).wk R,(ay.stp a3),bD,by omega,by omega,aN⟩,(ha.mm R)⟩
  rintro _ bX ⟨T,M,rfl,f,cF,db,rfl⟩
  have h:=yI cT
  refine Jp<|Jq<|Je3 R ?_
  revert h
  cases er:(!M.1)
  refine JF λh=>Jy R<|Js<|Jp<|Je [1,2,2,2,2,1,2] R ?_
  have bb:=bu.stp (T3 e c f)
  refine Jb4 tv R (Jc4 (haE bb.cells) I210 Z210 R)<|Jn 4 R<|Ob h λdZ ds h=>?_
  have bc:=bv.stp (T3 e c f)
  have bd:=bw.stp (T3 e c f)
  have be:=bx.stp (T3 e c f)
  have bf:=bz.stp (T3 e c f)
  have bg:=bA.stp (T3 e c f)
  have bh:=D.stp (T4 j e c f)
  refine Jr3 R C272 (Ret.cast (by simp only[db,List.cons_append,List.nil_append])<|nj (κ:=Mk T) (p0:=p0) (Ji3 bc) (Ji3 bd) (Ji3 be) (Ji3 bf) (Ji3 bg) (Ji3 bh) (Ji3 cF.rdc) ds) ?_
  rintro _ eL ⟨ey,ar,ec,rfl,cy,cI⟩
  obtain⟨aX,P,dF⟩:=Ji cy 17 R
  refine Tv<|Jb 1 R<|Jq<|Js1 (κ:=aX) [2] none [(1,2),(2,2),(0,0),(3,1),(4,1),(5,2)] [] (by kernel_rfl) (by kernel_rfl) λeN B=>Jn 2 R<|Jg R (Jc4 (haC (bb.stp<|P.tr B).cells R) I210 Z210 R)<|Ob h λe1 dt h=>?_
  have bi:=bh.stp (P.tr B)
  have aA:=(cI.mx eS dF R (R:17+2=19)).stp B
  refine Jr3 R C271 (pq (κ:=Mk aX) (Ji3 bi) (Ji3 aA.rdc) dt) ?_
  rintro _ eO ⟨ez,ej,ea,rfl,cz,cJ⟩
  obtain⟨ce,C,dG⟩:=Ji cz 20 R
  have O:=(T3 P B C)
  refine⟨(C.cl R),Ob h λd0 du h=>Jr3 R C250 (bR (κ:=Mk ce) (p0:=p0) (Ji3<|bc.stp O) (Ji3<|bd.stp O) (Ji3<|be.stp O) (Ji3<|bf.stp O) (Ji3<|bg.stp O) (Ji3 (cJ.mx eS dG R (R:20+2=22)).rdc) du) ?_⟩
  rintro _ bY ⟨eA,d8,d9,rfl,cA,cK⟩
  obtain⟨ap,V,dH⟩:=Ji cA 23 R
  refine⟨((C.tr V).cl R),?_⟩
  have bj:=cK.mx eS dH R (R:23+2=25)
  refine Jn 1 R<|Jt1<|Jd<|Jq<|Je3 R ?_
  have c5:(p1.length:Int)<=9223372036854775807:=bi.len_le
  refine Ob h λbT dk cY=>?_
  clear h
  refine Jo3 [6] (λE L w'=>∃κ',∃aj:(List Bool),L=E/\Stp [5] ap bY κ' w'/\Oc Ep.bool 4 κ' w' 5 A y aj/\x.length=aj.length/\bT=cb aj) ?_ ?_
  refine Jv<|Jp3 [1,6,7,16,17] (λk E L w'=>∃κ' s,∃K:(List Bool),L=(18,vi s)::E/\Stp [5] ap bY κ' w'/\Oc Ep.bool 4 κ' w' 5 A y K/\x.length=K.length/\0<=s/\hV ((p1.length:Int)-s)=k/\cntM (lh S dZ d0) k s K=some bT) ⟨_,_,⟨ap,0,x,R,Jj3,(aB.stp<|T11 d m o j e c f P B C V),R,(by decide),(by simp),dk⟩,(KM R)⟩ ?_
  rintro k _ bZ ⟨aq,s,K,rfl,W,aC,aT,c9,en,h⟩
  rcases k with _ | k
  have aP:=h;obtain⟨dN,h⟩:=cw (cb (eg K):(List Bool)⊕(((List Bool))⊕((List Bool))))
  have H:decide (s<(p1.length:Int))=false:=Jo2 (by omega)
  refine Jq<|Jg3 [2,2,2,2] 2 R<|Jn3 R U178 R R<|Jb 1 R<|Jw2 R H<|Jc1<|Jt<|Jt ?_
  cases h
  have h:=aP
  refine Jb1 ?_
  cases h
  exact Jw1 _ ⟨aq,K,R,W.wk R,aC,aT,R⟩<|KM R
  obtain⟨dN,h,aP⟩:=BI h;unfold lh at h
  have H:decide (s<(p1.length:Int))=true:=Jn2 (by omega)
  refine Jq<|Jg3 [2,2,2,2] 2 R<|Jn3 R U178 R R<|Jb 1 R<|Jv2 R H<|Js<|Jp<|Jq<|Jv<|Jh3 [2,2,2,2,2,1,2,2,2,2,1,2,2,2,2,2,2,1] 4 R<|Ob h λd1 bF h=>Jc3 R bj.rdc bF U178 Z4<|Jb3 R I4 ((bj.stp W).rdc.gBool bF)<|Jn 1 R<|Ob h λdR h cZ=>Jf4 [1,6,7,16,17,18,134,135] 149 dR aq bZ [(7,2),(8,2),(9,2),(10,1),(11,2),(12,2),(13,2),(14,2),(15,2)] [(16,2),(17,1)] tv ?_ ?_
  revert h
  cases eu:d1
  refine JF λh=>Jn 2 R<|Ob h λd2 bG h=>Jc3 R aA.rdc bG U178 Z4<|Jb3 R I4 ((aA.stp<|T3 C V W).rdc.gBool bG)<|Jn 1 R<|Ob h λdQ h c0=>Jf4 [1,6,7,16,17,18,134,135,140,141,142,143,144,145] 148 dQ aq bZ [(12,2),(13,2),(14,2)] [(15,2)] tv ?_ ?_
  revert h
  cases ev:d2
  refine JF λh=>Jn 3 R ?_
  cases h
  exact Jg4 tv R
  refine JT λh=>Jn 3 R ?_
  cases h
  exact Jg4 tv R
  rintro _ eQ _ ⟨rfl,d7,ct⟩
  have h:=c0
  refine Jn 1 R ?_
  cases h
  exact Jv1 _ tv ⟨R,_,ct.wk R⟩<|KM R
  refine JT λh=>Jn 3 R<|Jz3 R<|Jn 5 R ?_
  cases h
  exact Jg4 tv R
  rintro _ eR _ ⟨rfl,ch,a5⟩
  have h:=cZ
  refine Ob h λe2 dv h=>Jf R (Jf2 aC.rdc dv U178 Z4 R R aT R)<|Ob h λb5 bQ h=>Jk1 (κ:=ch) (E:=Ep.bool) 5 [] R R R R R R R R Z4 R R R R (aC.stp a5) bQ λeT ci cu cM=>Tv<|?_
  have df:x.length=b5.length:=aT.trans (Jt2 bQ).2.2.2.symm
  refine Jo<|Jz<|Jp<|Jf3 R ?_
  have dp:bM .i64 (s+1)=s+1:=wr1 c9 (Jm2 H) c5
  rw[dp]
  have H:=Jm2 H
  cases h
  exact Jz1 λa ha=>⟨k,_,Ja3 _,⟨ci,s+1,b5,R,(T3 W a5 cu).wk R,cM,df,by omega,by omega,aP⟩,(ha.mm R)⟩
  rintro _ eP ⟨cg,aj,rfl,cs,cL,de,rfl⟩
  have h:=yI cY
  refine Jp<|Je3 R<|Ju<|Ja2 (l:=[.tmp 4]) V250 (Jp2 R R) R ?_
  cases h
  exact⟨(λb=>ren [(5,2)]<|cg b),A,y,(by simp only[de]),((aM.stp<|T15 u g i d m o j e c f P B C V cs).map (ren [(5,2)]) R R),(cL.map (ren [(5,2)]) R R)⟩
  refine JT λh=>Jx R<|Jq<|Je3 R ?_
  have c4:(p1.length:Int)<=9223372036854775807:=D.len_le
  refine Ob h λbW dj cW=>?_
  clear h
  refine Jo3 [6] (λE L w'=>∃κ',∃al:(List Bool),L=E/\Stp [5] T bX κ' w'/\Oc Ep.bool 4 κ' w' 5 A y al/\x.length=al.length/\bW=cb al) ?_ ?_
  refine Jv<|Jp3 [1,6,7] (λk E L w'=>∃κ' q,∃N:(List Bool),L=(15,vi q)::E/\Stp [5] T bX κ' w'/\Oc Ep.bool 4 κ' w' 5 A y N/\x.length=N.length/\0<=q/\hV ((p1.length:Int)-q)=k/\cntM (lg p1 S) k q N=some bW) ⟨_,_,⟨T,0,x,R,Jj3,(aB.stp<|T7 d m o j e c f),R,(by decide),(by simp),dj⟩,(KM R)⟩ ?_
  rintro k _ dW ⟨aW,q,N,rfl,aw,az,aS,c8,em,h⟩
  rcases k with _ | k
  have aO:=h;obtain⟨dM,h⟩:=cw (cb (eg N):(List Bool)⊕(((List Bool))⊕((List Bool))))
  have G:decide (q<(p1.length:Int))=false:=Jo2 (by omega)
  refine Jq<|Jg3 [2,2,2,2] 2 R<|Jn3 R U178 R R<|Jb 1 R<|Jw2 R G<|Jc1<|Jt<|Jt ?_
  cases h
  have h:=aO
  refine Jb1 ?_
  cases h
  exact Jw1 _ ⟨aW,N,R,aw.wk R,az,aS,R⟩<|KM R
  obtain⟨dM,h,aO⟩:=BI h;unfold lg at h
  have G:decide (q<(p1.length:Int))=true:=Jn2 (by omega)
  refine Jq<|Jg3 [2,2,2,2] 2 R<|Jn3 R U178 R R<|Jb 1 R<|Jv2 R G<|Js<|Jp<|Jq<|Jv<|Jh3 [2,2,2,2,2,1,2,2,2,2,2,1] 4 R<|Ob h λdY bE h=>Jc3 R D bE U178 Z4<|Jb3 R I4 ((D.stp<|T5 j e c f aw).gBool bE)<|Jn 1 R<|Ob h λdP h cX=>Jf4 [1,6,7,15,105,106] 114 dP aW dW [(7,2),(8,2),(9,2)] [(10,2),(11,1)] tv ?_ ?_
  revert h
  cases es:dY
  refine JF λh=>Jn 3 R ?_
  cases h
  exact Jg4 tv R
  refine JT λh=>Jn 3 R ?_
  cases h
  exact Jg4 tv R
  rintro _ eJ _ ⟨rfl,cc,a4⟩
  have h:=cX
  refine Ob h λe0 dr h=>Jf R (Jf2 az.rdc dr U178 Z4 R R aS R)<|Ob h λb4 bP h=>Jk1 (κ:=cc) (E:=Ep.bool) 5 [] R R R R R R R R Z4 R R R R (az.stp a4) bP λeK cd cr cH=>Tv<|?_
  have dd:x.length=b4.length:=aS.trans (Jt2 bP).2.2.2.symm
  refine Jo<|Jz<|Jp<|Jf3 R ?_
  have dn:bM .i64 (q+1)=q+1:=wr1 c8 (Jm2 G) c4
  rw[dn]
  have G:=Jm2 G
  cases h
  exact Jz1 λa ha=>⟨k,_,Ja3 _,⟨cd,q+1,b4,R,(T3 aw a4 cr).wk R,cH,dd,by omega,by omega,aO⟩,(ha.mm R)⟩
  rintro _ eI ⟨b9,al,rfl,cq,cG,dc,rfl⟩
  have h:=yI cW
  refine Jp<|Je3 R<|Ju<|Jw<|Ja2 (l:=[.tmp 4]) V250 (Jp2 R R) R ?_
  cases h
  exact⟨(λb=>ren [(5,2)]<|b9 b),A,y,(by simp only[dc]),((aM.stp<|T11 u g i d m o j e c f cq).map (ren [(5,2)]) R R),(cG.map (ren [(5,2)]) R R)⟩
  refine JT λh=>Jx R<|Je3 R<|Ju<|Jw<|Ja2 (l:=[.tmp 4]) V250 (Jp2 R R) R ?_
  cases h
  exact⟨(λb=>ren [(5,2)]<|aY b),A,y,R,((aM.stp<|T3 u g i).map (ren [(5,2)]) R R),(aB.map (ren [(5,2)]) R R)⟩
theorem iF {b c}{p0:(List Int)}{p1:Int}(j:Rd (Rp.int .i64) κ w 0 b c p0){r:Bool}(h:ez p0 p1=some r):Ret Tryz.prog 159 [.slice b p0.length c,vi p1] w (Pvb κ w r):=by
 unfold ez at h
 refine Jk3 κ F159 R N159 R λk=>Je [1,2] R<|Js3 (κ:=κ) 2 R λn w1 d a i=>Tv<|Jb 1 R<|Jg3 [2,2,1,2,2] 1 R<|Jf R (d8 (first:=[]) (captured:=[.tmp 3]) R R R ⟨_,R⟩)<|Ob h λq m h=>Jr3 R C216 (eQ (κ:=Mk d) (Ji3<|j.stp a) (i.map (mp [] 0) R R) m) ?_
 rintro _ p ⟨k7,rfl,g⟩
 obtain⟨e,f,o⟩:=Ji g 3 R
 refine Tv<|Jb 2 R<|Ju<|Ja2 (l:=[.tmp 4]) V159 (Jp2 R R) R ?_
 cases h
 exact⟨e,R,(k.stp<|a.tr f)⟩
theorem dX {m t}{p0:(List Clause)}{c1_0:Sig}{n}(f:Rd Clause.rp κ w 0 m t p0) (A:Bc κ w 0 n 28 [vi c1_0.In,vi c1_0.Out]){r:Int}(h:cr p0 c1_0=some r):Ret Tryz.prog 194 [.slice m p0.length t,.func (.func 127) #[] #[.pointer (some ⟨n,0,none⟩)]] w (Pvi κ w r):=by
 unfold cr at h
 refine Jk3 κ F194 R N194 R λo=>Je3 R<|Jq<|Jg3 [2,2,2] 1 R<|Jn3 R U29 R R<|Jb 1 R ?_
 have B:(p0.length:Int)<=9223372036854775807:=f.len_le
 refine Ob h λs F p=>?_
 clear h
 refine Jo3 [1] (λE L w'=>∃κ',L=E/\Stp [] κ w κ' w'/\s=cb ()) ?_ ?_
 refine Jv<|Jp3 [0,1,7] (λk E L w'=>∃κ' b,L=(8,vi b)::E/\Stp [] κ w κ' w'/\0<=b/\hV ((p0.length:Int)-b)=k/\cntM (cm p0 c1_0) k b ()=some s) ⟨_,_,⟨κ,0,R,Jj3,(by decide),(by simp),F⟩,(KM R)⟩ ?_
 rintro k _ Z ⟨i,b,rfl,d,C,Q,h⟩
 rcases k with _ | k
 have e:=h;obtain⟨J,h⟩:=cw (cb (eg ()):Int⊕((Unit)⊕(Unit)))
 have c:decide (b<(p0.length:Int))=false:=Jo2 (by omega)
 refine Je3 R<|Jq<|Jw2 R c<|Jc1<|Jt<|Jt ?_
 cases h
 have h:=e
 refine Jb1 ?_
 cases h
 exact Jw1 _ ⟨i,R,d.wk R,R⟩<|KM R
 obtain⟨J,h,e⟩:=BI h;unfold cm at h
 have c:decide (b<(p0.length:Int))=true:=Jn2 (by omega)
 refine Je3 R<|Jq<|Jv2 R c<|Js<|Jp<|Jq<|Jv<|Je3 R<|Jg3 [2,2,2,2,1,1] 3 R<|Ob h λK q h=>Jc3 R f q U29 Z67 ?_
 obtain⟨P,G,D⟩:=((f.stp d)).gSt q
 obtain⟨N,V,O,W,rfl,y,z⟩:=Clause.un G
 refine Jb4 tv R (Jc4 (haE D) I67 Z67 R)<|Ob h λM I h=>WO.callV R R R R R R R R C127 (ou (κ:=Mk i) (p0:=K) (c0:=c1_0) (Ji3 y) (Ji3 z) ((A.stp d).map (mp [] 0) R R) I) ?_
 rintro _ X ⟨T,rfl,x⟩
 obtain⟨g,j,U⟩:=Ji x 2 R
 refine Tv<|Jd ?_
 revert h
 cases S:M
 refine JF λh=>Jy R<|Js<|Jz<|Jp<|Jf3 R ?_
 have H:bM .i64 (b+1)=b+1:=wr1 C (Jm2 c) B
 rw[H]
 have c:=Jm2 c
 cases h
 exact Jz1 λa ha=>⟨k,_,Ja3 _,⟨g,b+1,R,(d.tr j).wk R,by omega,by omega,e⟩,(ha.mm R)⟩
 refine JT λh=>Jx R<|Je3 R<|Ju<|Ja1<|Jw<|Jw ?_
 cases h
 obtain rfl:=Option.some.inj e
 have h:=yL p
 refine Ja1<|Jq2<|Jw<|Ja2 (l:=[.tmp 4]) V194 (Jp2 R R) R ?_
 cases h
 exact⟨g,R,(o.stp<|d.tr j)⟩
 rintro _ Y ⟨u,rfl,v,rfl⟩
 have h:=yI p
 refine Jp<|Je3 R<|Ju<|Ja2 (l:=[.tmp 4]) V194 (Jp2 R R) R ?_
 cases h
 exact⟨u,R,(o.stp v)⟩
theorem n0 {ar ah ag ad aa ae}{p0:watch}{ac ab af ai}{p1:Pair}{aj}(a3:Rd (Rp.sl (Rp.int .i64)) κ w 0 ar ah p0.next) (a4:Rd (Rp.sl (Rp.int .i64)) κ w 0 ag ad p0.letters) (a5:Rd Pair.rp κ w 0 aa ae p0.pairs) (a6:Rd (Rp.int .i64) κ w 0 ac ab p1.Ask) (a7:Rd (Rp.int .i64) κ w 0 af ai p1.Give) (a8:Bc κ w 0 aj 172 [.slice ar p0.next.length ah,.slice ag p0.letters.length ad,.slice aa p0.pairs.length ae]){r:(List Int)}(h:fL p0 p1=some r):Ret Tryz.prog 149 [.pointer (some ⟨aj,0,none⟩),.agg #[.slice ac p1.Ask.length ab,.slice af p1.Give.length ai]] w (Pvs E6 2 κ w r):=by
 unfold fL at h
 refine Jk3 κ F149 R N149 R λa9=>Je [1,2] R<|Js3 (κ:=κ) 2 R λbL w1 ax p aV=>Tv<|Jb 1 R<|Je [1,2] R<|Jx3 (κ:=ax) (E:=E6) 3 R Y37 bS R λaN aL b1 X j aY=>Tv<|Jb 1 R<|Jq<|Jq<|Js1 (κ:=X) [0,2] none [(0,2),(1,2),(2,2),(4,2),(5,2),(10,2),(3,0),(6,0),(7,1),(8,1),(9,2)] [] (by kernel_rfl) (by kernel_rfl) λbZ f=>Jn 1 R<|Jf R (cI R R)<|Jd3 R U172 R Z31<|Jn 1 R<|Jd3 R U127 R Z37<|Jn 1 R ?_
 have ak:=a8.stp (T3 p j f)
 refine Jg R (Jc2 I31 R R<|hvC (ak.ld 0 R R) R) ?_
 have al:=aV.stp (j.tr f)
 refine Jg R (Jc2 I37 R R<|hvC (al.ld 1 R R) R)<|Ob h λb8 bn h=>?_
 have am:=a3.stp (T3 p j f)
 have O:=(T3 p j f)
 refine Jr3 R C210 (nZ (κ:=Mk X) (p0:=p0) (Ji3 am) (Ji3<|a4.stp O) (Ji3<|a5.stp O) (Ji3<|a7.stp O) (ak.map (mp [] 0) R R) bn) ?_
 rintro _ bx ⟨bQ,bF,bG,rfl,aP,aT⟩
 obtain⟨ay,e,bt⟩:=Ji aP 4 R
 refine⟨(e.cl R),?_⟩
 obtain⟨az,i,bC⟩:=lr ay bx 6
 refine Ob h λA bo h=>Jr3 R C164 (rX (κ:=λb=>mp [] 1<|az b) (Jl2 (am.stp<|e.tr i) (mp [] 1) R R) (Jl2 (Sl.st bC (aT.mx eS bt R (R:4+2=6)).rdc) (mp [] 1) R R) bo) ?_
 rintro _ av ⟨bR,bH,bJ,rfl,aQ,aU⟩
 obtain⟨M,q,bu,bD⟩:=Jj aQ 7 R
 refine⟨((T3 e i q).cl R),?_⟩
 have Q:=aU.mxz bD bu R (R:7+2=9)
 refine Jn3 R U31 R R<|Jt1<|Jd ?_
 have bd:(A.length:Int)<=9223372036854775807:=Q.len_le
 refine Ob h λaq bj ba=>?_
 clear h
 refine Jo3 [0] (λE L w'=>∃κ',∃K:(List Int),∃D F,L=(5,.slice D K.length F)::E/\Stp [3] M av κ' w'/\Oc E6 2 κ' w' 3 D F K/\aq=cb K) ?_ ?_
 refine Jv<|Jp3 [0,3,19,20] (λk E L w'=>∃κ' c,∃g:(List Int),∃y u,L=(5,.slice y g.length u)::(21,vi c)::E/\Stp [3] M av κ' w'/\Oc E6 2 κ' w' 3 y u g/\0<=c/\hV ((A.length:Int)-c)=k/\cntM (ej p1 A) k c g=some aq) ⟨_,_,⟨M,0,(([]:List Int):(List Int)),aN,aL,R,Jj3,(aY.stp<|T4 f e i q),(by decide),(by simp),bj⟩,(KM R)⟩ ?_
 rintro k _ aw ⟨C,c,g,y,u,rfl,s,an,bf,bN,h⟩
 rcases k with _ | k
 have U:=h;obtain⟨bv,h⟩:=cw (cb (eg g):(List Int)⊕(((List Int))⊕((List Int))))
 have m:decide (c<(A.length:Int))=false:=Jo2 (by omega)
 refine Je3 R<|Jq<|Jw2 R m<|Jc1<|Jt<|Jt ?_
 cases h
 have h:=U
 refine Jb1 ?_
 cases h
 exact Jw1 _ ⟨C,g,y,u,R,s.wk R,an,R⟩<|KM R
 obtain⟨bv,h,U⟩:=BI h;unfold ej at h
 have m:decide (c<(A.length:Int))=true:=Jn2 (by omega)
 refine Je3 R<|Jq<|Jv2 R m<|Js<|Jp<|Jq<|Jv<|Je [2,1,2] R<|Ob h λB ao h=>Jc3 R Q.rdc ao U31 Z37 ?_
 obtain⟨bK,bX,S,bh⟩:=(Q.stp s).gZ ao
 refine Jb3 R I37 bh<|Jb 1 R<|Jg3 [2,2,2] 1 R<|Jn3 R U37 R R<|Jb 1 R ?_
 have be:(B.length:Int)<=9223372036854775807:=S.len_le
 refine Ob h λau bk bb=>?_
 clear h
 refine Jo3 [0,3,19,20,21] (λE L w'=>∃κ',∃z:(List Int),∃H G,L=(5,.slice H z.length G)::E/\Stp [3] C aw κ' w'/\Oc E6 2 κ' w' 3 H G z/\au=cb z) ?_ ?_
 refine Jv<|Jp3 [0,3,19,20,21,25,26] (λk E L w'=>∃κ' d,∃o:(List Int),∃x v,L=(5,.slice x o.length v)::(27,vi d)::E/\Stp [3] C aw κ' w'/\Oc E6 2 κ' w' 3 x v o/\0<=d/\hV ((B.length:Int)-d)=k/\cntM (ek p1 B) k d o=some au) ⟨_,_,⟨C,0,g,y,u,R,Jj3,an,(by decide),(by simp),bk⟩,(KM R)⟩ ?_
 rintro k _ b3 ⟨Y,d,o,x,v,rfl,t,T,bg,bO,h⟩
 rcases k with _ | k
 have V:=h;obtain⟨bw,h⟩:=cw (cb (eg o):(List Int)⊕(((List Int))⊕((List Int))))
 have n:decide (d<(B.length:Int))=false:=Jo2 (by omega)
 refine Je3 R<|Jq<|Jw2 R n<|Jc1<|Jt<|Jt ?_
 cases h
 have h:=V
 refine Jb1 ?_
 cases h
 exact Jw1 _ ⟨Y,o,x,v,R,t.wk R,T,R⟩<|KM R
 obtain⟨bw,h,V⟩:=BI h;unfold ek at h
 have n:decide (d<(B.length:Int))=true:=Jn2 (by omega)
 refine Je3 R<|Jq<|Jv2 R n<|Js<|Jp<|Jq<|Jv<|Je [2,1,2] R<|Ob h λbA ap h=>Jc3 R S ap U37 Z2<|Jb3 R I2 ((S.stp t).gInt ap)<|Jb 1 R<|Je [2,1,2,1] R<|Jd3 R U127 R Z37<|Jb3 R I37 ((al.stp<|T5 e i q s t).ld 0 R R)<|Jn 1 R<|Ob h λbB bp h=>Jr3 R C89 (ch (κ:=Mk Y) (Ji3<|a6.stp<|T8 p j f e i q s t) bp) ?_
 rintro _ bz ⟨bT,rfl,aR⟩
 obtain⟨N,P,bW⟩:=Ji aR 10 R
 refine Tv<|Jd<|Ob h λW h bc=>Jo3 [0,3,19,20,21,25,26,27] (λE L w'=>∃κ' J I,L=(5,.slice J W.length I)::E/\Stp [3] N bz κ' w'/\Oc E6 2 κ' w' 3 J I W) ?_ ?_
 revert h
 cases bP:bB
 refine JF λh=>Jy R<|Js ?_
 cases h
 exact Jw1 _ ⟨N,x,v,R,Jj3,(T.stp P)⟩<|KM R
 refine JT λh=>Jx R<|Jh3 [2,2,1,1,2] 2 R<|Jd4 (κ:=N) 12 [bA] R Y37 bS R λbI bE b5 aD Z a0=>Tv<|Ob h λb9 bq h=>Jy3 (κ:=aD) (E:=E6) 3 [] R Y37 bS R (T.stp<|P.tr Z) (Sl.srcP (bY _) a0.rdc) bU bq R λaO aM b6 aE aK a1=>Tv<|Jc 1 R ?_
 cases h
 exact Jw1 _ ⟨aE,aO,aM,R,(Z.tr aK).wk R,a1⟩<|KM R
 rintro _ b4 ⟨aC,J,I,rfl,aJ,aZ⟩
 have h:=bc
 refine Jz<|Jp<|Jf3 R ?_
 have bm:bM .i64 (d+1)=d+1:=wr1 bg (Jm2 n) be
 rw[bm]
 have n:=Jm2 n
 cases h
 exact Jz1 λa ha=>⟨k,_,Ja3 _,⟨aC,d+1,W,J,I,R,(T3 t P aJ).wk R,aZ,by omega,by omega,V⟩,(ha.mm R)⟩
 rintro _ b2 ⟨aB,z,H,G,rfl,aI,aX,rfl⟩
 have h:=yI bb
 refine Jz<|Jp<|Jf3 R ?_
 have bl:bM .i64 (c+1)=c+1:=wr1 bf (Jm2 m) bd
 rw[bl]
 have m:=Jm2 m
 cases h
 exact Jz1 λa ha=>⟨k,_,Ja3 _,⟨aB,c+1,z,H,G,R,(s.tr aI).wk R,aX,by omega,by omega,U⟩,(ha.mm R)⟩
 rintro _ b0 ⟨aA,K,D,F,rfl,aH,aW,rfl⟩
 have h:=yI ba
 refine Jp<|Jg3 [2,1] 1 R<|Ob h λca br h=>Jr3 R C106 (jB (κ:=λb=>mp [(3,2)] 0<|aA b) (aW.map (mp [(3,2)] 0) R R) br) ?_
 rintro _ b7 ⟨bV,rfl,aS,a2,bi⟩
 obtain⟨aF,aG,bs⟩:=Ji aS 10 R
 refine Tv<|Jd<|Je3 R<|Ju<|Ja2 (l:=[.tmp 4]) V149 (Jp2 R R) R ?_
 cases h
 exact⟨(λb=>ren [(12,2)]<|aF b),D,F,(by simp only[(bi)]),((a9.stp<|T8 p j f e i q aH aG).map (ren [(12,2)]) R R),((a2.mx (cc _) bs R (R:10+2=12)).map (ren [(12,2)]) R R)⟩
theorem su {p0:Sig}{a5 a4 aY a2}{p1:Machine}{a1 ay a3 a0}{p2:Word}(cD:Rd (Rp.sl (Rp.int .i64)) κ w 0 a5 a4 p1.Next) (cE:Rd (Rp.sl (Rp.int .i64)) κ w 0 aY a2 p1.Out) (bi:Rd (Rp.int .i64) κ w 0 a1 ay p2.Stem) (aO:Rd (Rp.int .i64) κ w 0 a3 a0 p2.Loop){r:Word}(h:iY p0 p1 p2=some r):Ret Tryz.prog 14 [.agg #[vi p0.In,vi p0.Out],.agg #[.slice a5 p1.Next.length a4,.slice aY p1.Out.length a2],.agg #[.slice a1 p2.Stem.length ay,.slice a3 p2.Loop.length a0]] w (λv w'=>∃(κ':Col) (br:Option Addr) (bt:Nat) (bs:Option Addr) (bu:Nat),v= .agg #[.slice br r.Stem.length bt,.slice bs r.Loop.length bu]/\Ent κ w κ' w'/\Oc E6 2 κ' w' 2 br bt r.Stem/\Oc E6 2 κ' w' 3 bs bu r.Loop):=by
 unfold iY at h
 refine Jk3 κ F14 R N14 R λaP=>Je [1,1,1,1] R<|Js3 (κ:=κ) 2 R λdm w1 bL u cz=>Tv<|Js3 (κ:=bL) 3 R λdn eb bO p cC=>Tv<|Js3 (κ:=bO) 4 R λdp eh bC m ai=>Tv<|Jt3 (κ:=bC) 5 R X39 R λdq dU bH e aE=>Tv<|Jd<|Jq<|Je [1,1,1,2,2,1,2,1,1,2,2,2,1,2,1,1,2,2,2,2,1,2,2,2] R ?_
 have aj:=cz.stp (T3 p m e)
 refine Jb4 tv R (Jc4 (haE aj.cells) I28 Z28 R) ?_
 have bb:=cC.stp (m.tr e)
 refine Jb4 tv R (Jc4 (haE bb.cells) I33 Z33 R)<|Ob h λdb cR h=>?_
 have bc:=cD.stp (T4 u p m e)
 have be:=cE.stp (T4 u p m e)
 refine Jr3 R C17 (qr (κ:=Mk bH) (p0:=p0) (p1:=p1) (Ji3 bc) (Ji3 be) cR) ?_
 rintro _ c8 ⟨dF,rfl,b9⟩
 obtain⟨aU,c,dM⟩:=Ji b9 6 R
 refine Tv<|Jn 2 R<|Ob h λbm h cI=>Jf4 [3,4,5,6] 23 bm aU c8 [(5,1),(6,2),(7,1),(8,1),(9,2),(10,2)] [(11,2),(12,1),(13,2),(14,1),(15,1),(16,2),(17,2),(18,2),(19,2),(20,1),(21,2),(22,2),(23,2)] tv ?_ ?_
 revert h
 cases dw:(!db)
 refine JF λh=>Jb4 tv R (Jc4 (haE (aj.stp c).cells) I28 Z28 R)<|Jd3 R U39 R Z37<|Jb3 R I37 ((ai.stp<|e.tr c).ld 0 R R)<|Ob h λek cS h=>Jr3 R C54 (ni (κ:=Mk aU) (p0:=p0) (Ji3<|bi.stp<|T5 u p m e c) cS) ?_
 rintro _ d9 ⟨dG,rfl,ca⟩
 obtain⟨dg,bW,dN⟩:=Ji ca 8 R
 refine Tv<|Jn 2 R ?_
 cases h
 exact Jv1 _ tv ⟨R,_,bW.wk R⟩<|KM R
 refine JT λh=>Jz3 R<|Jn 1 R<|Jz3 R<|Jz3 R<|Jn 2 R ?_
 cases h
 exact Jg4 tv R
 rintro _ c9 _ ⟨rfl,aV,d⟩
 have h:=cI
 refine Jn 1 R<|Ob h λbn h cJ=>Jf4 [3,4,5,6] 30 bn aV c9 [(12,1),(13,2),(14,1),(15,1),(16,2),(17,2)] [(18,2),(19,2),(20,1),(21,2),(22,2),(23,2)] tv ?_ ?_
 revert h
 cases dx:bm
 refine JF λh=>Jb4 tv R (Jc4 (haE (aj.stp<|c.tr d).cells) I28 Z28 R)<|Jd3 R U39 R Z37<|Jb3 R I37 ((ai.stp<|T3 e c d).ld 1 R R)<|Ob h λel cT h=>Jr3 R C54 (ni (κ:=Mk aV) (p0:=p0) (Ji3<|aO.stp<|T6 u p m e c d) cT) ?_
 rintro _ ea ⟨dH,rfl,ce⟩
 obtain⟨dh,bX,dO⟩:=Ji ce 8 R
 refine Tv<|Jn 2 R ?_
 cases h
 exact Jv1 _ tv ⟨R,_,bX.wk R⟩<|KM R
 refine JT λh=>Jz3 R<|Jn 1 R<|Jz3 R<|Jz3 R<|Jn 2 R ?_
 cases h
 exact Jg4 tv R
 rintro _ da _ ⟨rfl,bN,f⟩
 have h:=cJ
 refine Jn 1 R<|Ob h λbo h cK=>Jf4 [3,4,5,6] 36 bo bN da [(19,2),(20,1),(21,2),(22,2),(23,2)] [] tv ?_ ?_
 revert h
 cases dy:bn
 refine JF λh=>Jd3 R U39 R Z37<|Jb3 R I37 ((ai.stp<|T4 e c d f).ld 1 R R)<|Jn3 R U37 R R<|Jn 2 R ?_
 cases h
 exact Jg4 tv R
 refine JT λh=>Jn 1 R<|Jz3 R<|Jn 3 R ?_
 cases h
 exact Jg4 tv R
 rintro _ ec _ ⟨rfl,an,i⟩
 have h:=cK
 refine Jd ?_
 revert h
 cases dz:bo
 refine JF λh=>Jy R<|Js<|Jp<|Je [1,2] R<|Jx3 (κ:=an) (E:=E6) 8 R Y37 bS R λb2 b1 ee bP o cB=>Tv<|Jb 1 R<|Je [1,2,1,1,2] R ?_
 have aJ:=bb.stp (T5 c d f i o)
 refine Jb4 tv R (Jc4 (haE aJ.cells) I33 Z33 R)<|Jd3 R U39 R Z37 ?_
 have aK:=ai.stp (T6 e c d f i o)
 refine Jb3 R I37 (aK.ld 0 R R)<|Ob h λdc cU h=>?_
 have aL:=bc.stp (T5 c d f i o)
 have aM:=be.stp (T5 c d f i o)
 have bh:=bi.stp (T9 u p m e c d f i o)
 refine Jr3 R C55 (nh (κ:=Mk bP) (p0:=p1) (Ji3 aL) (Ji3 aM) (Ji3 bh) cU) ?_
 rintro _ bw ⟨dI,rfl,cf⟩
 obtain⟨ao,j,dP⟩:=Ji cf 9 R
 refine Tv<|Jb 1 R<|Jq<|Ob h λbp cP cL=>?_
 clear h
 refine Jo3 [3,4,5,6] (λE L w'=>∃κ',∃x:(List Int)×Int,∃ar aA,L=(7,.slice ar x.1.length aA)::(8,vi x.2)::E/\Stp [8] ao bw κ' w'/\Oc E6 2 κ' w' 8 ar aA x.1/\bp=cb x) ?_ ?_
 refine Jv<|Jp3 [3,4,5,6] (λk E L w'=>∃κ',∃B:(List Int)×Int,∃ah Z,L=(7,.slice ah B.1.length Z)::(8,vi B.2)::E/\Stp [8] ao bw κ' w'/\Oc E6 2 κ' w' 8 ah Z B.1/\cu (eE p1 p2) k B=some bp) ⟨_,_,⟨ao,((([]:List Int):(List Int)),dc),b2,b1,R,Jj3,(cB.stp j),cP⟩,(KM R)⟩ ?_
 rintro k _ ei ⟨bR,B,ah,Z,rfl,X,aN,h⟩
 rcases k with _ | k
 cases h
 obtain⟨dQ,h,bj⟩:=BI h;unfold eE at h
 refine Jq<|Jg3 [2,2,1,2] 2 R<|Ob h λdd cV h=>Jr3 R C56 (kq (κ:=Mk bR) (Ji3 aN.rdc) cV) ?_
 rintro _ ej ⟨dA,rfl,b4⟩
 obtain⟨aR,H,dJ⟩:=Ji b4 11 R
 refine Tv<|Jb 1 R ?_
 revert h
 cases ds:decide (dd<0)
 refine JF λh=>Jy R<|Jc1<|Jt<|Jt ?_
 cases h
 have h:=bj
 refine Jb1 ?_
 cases h
 exact Jw1 _ ⟨aR,(B.1,B.2),ah,Z,R,(X.tr H).wk R,(aN.stp H),R⟩<|KM R
 have V:=(T3 j X H)
 refine JT λh=>Jx R<|Js<|Jp<|Jv<|Jg3 [2,2,1,1,2] 2 R<|Jd4 (κ:=aR) 13 [B.2] R Y37 bS R λdk dl dR bD C cg=>Tv<|Ob h λde cW h=>Jy3 (κ:=bD) (E:=E6) 8 [] R Y37 bS R (aN.stp<|H.tr C) (Sl.srcP (bY _) cg.rdc) bU cW R λb0 b3 dS bE I ch=>Tv<|Jb 1 R<|Ja [1,2,2,1,1,2] R<|Jb4 tv R (Jc4 (haE (aJ.stp<|T3 V C I).cells) I33 Z33 R)<|Jn 1 R<|Jd3 R U39 R Z37<|Jb3 R I37 ((aK.stp<|T3 V C I).ld 1 R R)<|Ob h λdf cX h=>Jr3 R C55 (nh (κ:=Mk bE) (p0:=p1) (Ji3<|aL.stp<|T3 V C I) (Ji3<|aM.stp<|T3 V C I) (Ji3<|aO.stp<|T14 u p m e c d f i o j X H C I) cX) ?_
 rintro _ dT ⟨dB,rfl,b5⟩
 obtain⟨bF,aW,dK⟩:=Ji b5 14 R
 refine Tv<|Jc 1 R<|Jz ?_
 cases h
 exact Jz1 λa ha=>⟨k,_,Ja3 _,⟨bF,(de,df),b0,b3,R,(T5 X H C I aW).wk R,(ch.stp aW),bj⟩,(ha.mm R)⟩
 rintro _ ef ⟨bQ,x,ar,aA,rfl,q,ak,rfl⟩
 have h:=yI cL
 refine Jp<|Jg3 [2,2,1,2] 2 R<|Ob h λbx cY h=>Jr3 R C56 (kq (κ:=Mk bQ) (Ji3 ak.rdc) cY) ?_
 rintro _ dV ⟨dC,rfl,b6⟩
 obtain⟨bG,n,dL⟩:=Ji b6 11 R
 refine Tv<|Jb 1 R<|Je [1,1,2,1,1,2,1,1] R ?_
 have a6:=aj.stp (T8 c d f i o j q n)
 refine Jb4 tv R (Jc4 (haE a6.cells) I28 Z28 R) ?_
 have a7:=aJ.stp (T3 j q n)
 refine Jb4 tv R (Jc4 (haE a7.cells) I33 Z33 R)<|Jd3 R U39 R Z37 ?_
 have a8:=aK.stp (T3 j q n)
 refine Jb3 R I37 (a8.ld 0 R R)<|Ob h λbz cZ h=>?_
 have a9:=aL.stp (T3 j q n)
 have ba:=aM.stp (T3 j q n)
 refine Jr3 R C57 (mL (κ:=Mk bG) (p0:=p0) (p1:=p1) (Ji3 a9) (Ji3 ba) (Ji3<|bh.stp<|T3 j q n) cZ) ?_
 rintro _ dW ⟨dD,aZ,aX,rfl,b7,ci⟩
 obtain⟨bI,D,c3⟩:=Ji b7 13 R
 refine Tv<|Jf R (Ji4 [.slice aZ bz.length aX,.slice none 0 0] R)<|Jt3 (κ:=bI) 16 R X39 R λaD dX T y cj=>Tv<|Jh4 (κ:=T) 16 R Z39 R cj R λbv z ck=>Tv<|Jd<|Jq<|Je3 R ?_
 have cM:(x.1.length:Int)<=9223372036854775807:=ak.len_le
 refine Ob h λbq cO cF=>?_
 clear h
 refine Jo3 [6,10] (λE L w'=>∃κ',∃G:(List Int)×(List Int),∃ae ad ab aa,L=E/\Stp [15,16,17] T bv κ' w'/\Oc E6 2 κ' w' 15 ae ad G.1/\Oc E6 2 κ' w' 17 ab aa G.2/\Bc κ' w' 16 aD 39 [.slice ae G.1.length ad,.slice ab G.2.length aa]/\bq=cb G) ?_ ?_
 refine Jv<|Jp3 [3,4,5,6,7,9,10] (λk E L w'=>∃κ' t,∃s:(List Int)×(List Int),∃M J K N,L=(11,vi t)::E/\Stp [15,16,17] T bv κ' w'/\Oc E6 2 κ' w' 15 M J s.1/\Oc E6 2 κ' w' 17 K N s.2/\Bc κ' w' 16 aD 39 [.slice M s.1.length J,.slice K s.2.length N]/\0<=t/\hV ((x.1.length:Int)-t)=k/\cntM (dY p0 p1 p2 x bx) k t s=some bq) ⟨_,_,⟨T,0,(bz,(([]:List Int):(List Int))),aZ,aX,none,0,R,Jj3,((ci.mx (cc _) c3 R (R:13+2=15)).stp (y.tr z)),Ow.nil,ck,(by decide),(by simp),cO⟩,(KM R)⟩ ?_
 rintro k _ dZ ⟨al,t,s,M,J,K,N,rfl,S,aG,aH,aI,cN,dr,h⟩
 rcases k with _ | k
 have aQ:=h;obtain⟨c5,h⟩:=cw (cb (eg s):Word⊕(((List Int)×(List Int))⊕((List Int)×(List Int))))
 have O:decide (t<(x.1.length:Int))=false:=Jo2 (by omega)
 refine Jq<|Jg3 [2,2,2,2] 2 R<|Jn3 R U37 R R<|Jb 1 R<|Jw2 R O<|Jc1<|Jt<|Jt ?_
 cases h
 have h:=aQ
 refine Jb1 ?_
 cases h
 exact Jw1 _ ⟨al,(s.1,s.2),M,J,K,N,R,S.wk R,aG,aH,aI,R⟩<|KM R
 obtain⟨c5,h,aQ⟩:=BI h;unfold dY at h
 have O:decide (t<(x.1.length:Int))=true:=Jn2 (by omega)
 have Q:=(T4 D y z S)
 refine Jq<|Jg3 [2,2,2,2] 2 R<|Jn3 R U37 R R<|Jb 1 R<|Jv2 R O<|Js<|Jp<|Jq<|Jv<|Jq<|Js1 (κ:=al) [0,2,3,4,8] none [(2,2),(3,2),(4,2),(6,2),(0,0),(1,0),(5,0),(7,0),(8,1),(9,2)] [] (by kernel_rfl) (by kernel_rfl) λd0 g=>Jn 2 R<|Ob h λem bk h=>Jc3 R ak.rdc bk U37 Z2<|Jd3 R U39 R Z37<|Jg R (Jc4 (haC (a6.stp<|Q.tr g).cells R) I28 Z28 R)<|Jg R (Jc4 (haC (a7.stp<|Q.tr g).cells R) I33 Z33 R)<|Jg R (Jc2 I2 R R<|hvC ((ak.stp<|T6 n D y z S g).rdc.gInt bk) R)<|Jg R (Jc2 I37 R R<|hvC ((a8.stp<|Q.tr g).ld 1 R R) R)<|Ob h λen c0 h=>Jr3 R C57 (mL (κ:=Mk al) (p0:=p0) (p1:=p1) (Ji3<|a9.stp<|Q.tr g) (Ji3<|ba.stp<|Q.tr g) (Ji3<|aO.stp<|u.tr<|p.tr<|m.tr<|e.tr<|c.tr<|d.tr<|f.tr<|i.tr<|o.tr<|j.tr<|q.tr<|n.tr<|D.tr<|y.tr<|z.tr<|S.tr g) c0) ?_
 rintro _ c7 ⟨dE,dj,di,rfl,b8,cn⟩
 obtain⟨am,A,c4⟩:=Ji b8 18 R
 refine⟨(A.cl R),?_⟩
 have bd:=cn.mx (cc _) c4 R (R:18+2=20)
 refine Jn 1 R<|Jt1<|Jd<|Je3 R<|Ob h λP h cG=>Jo3 [3,4,5,6,7,9,10,11] (λE L w'=>∃κ' ag af Y ac,L=E/\Stp [15,16,17] am c7 κ' w'/\Oc E6 2 κ' w' 15 ag af P.1/\Oc E6 2 κ' w' 17 Y ac P.2/\Bc κ' w' 16 aD 39 [.slice ag P.1.length af,.slice Y P.2.length ac]) ?_ ?_
 revert h
 cases dt:decide (t<bx)
 refine JF λh=>Jy R<|Ja [2,1,2,1,2,1] R<|Jd3 R U39 R Z37 ?_
 have bg:=aI.stp (g.tr A)
 refine Jb3 R I37 (bg.ld 1 R R)<|Jn 1 R<|Ob h λbB c2 h=>Jy3 (κ:=am) (E:=E6) 17 [] R Y37 bS R (aH.stp<|g.tr A) (Sl.srcP (bY _) bd.rdc) bU c2 R λaC aB d4 aT au ct=>Tv<|Jd3 R U39 R Z37<|Ju3 (κ:=aT) 16 (off:=1) (vc:=[.slice aC bB.length aB]) (cs':=[.slice M s.1.length J,.slice aC bB.length aB]) R Z37 R (bg.stp au) R λd5 av cv=>Tv<|Jo ?_
 cases h
 exact Jw1 _ ⟨aT,M,J,aC,aB,R,(au.tr av).wk R,(aG.stp<|T4 g A au av),(ct.stp av),cv⟩<|KM R
 refine JT λh=>Jx R<|Ja [2,1,2,1,2,1] R<|Jd3 R U39 R Z37 ?_
 have bf:=aI.stp (g.tr A)
 refine Jb3 R I37 (bf.ld 0 R R)<|Jn 1 R<|Ob h λbA c1 h=>Jy3 (κ:=am) (E:=E6) 15 [] R Y37 bS R (aG.stp<|g.tr A) (Sl.srcP (bY _) bd.rdc) bU c1 R λaz ax d2 aS ap cr=>Tv<|Jd3 R U39 R Z37<|Ju3 (κ:=aS) 16 (off:=0) (vc:=[.slice az bA.length ax]) (cs':=[.slice az bA.length ax,.slice K s.2.length N]) R Z37 R (bf.stp ap) R λd3 aq cs=>Tv<|Jo ?_
 cases h
 exact Jw1 _ ⟨aS,az,ax,K,N,R,(ap.tr aq).wk R,(cr.stp aq),(aH.stp<|T4 g A ap aq),cs⟩<|KM R
 rintro _ d1 ⟨bK,ag,af,Y,ac,rfl,bT,co,cp,cq⟩
 have h:=cG
 refine Jz<|Jp<|Jf3 R ?_
 have cQ:bM .i64 (t+1)=t+1:=wr1 cN (Jm2 O) cM
 rw[cQ]
 have O:=Jm2 O
 cases h
 exact Jz1 λa ha=>⟨k,_,Ja3 _,⟨bK,t+1,(P.1,P.2),ag,af,Y,ac,R,(T4 S g A bT).wk R,co,cp,cq,by omega,by omega,aQ⟩,(ha.mm R)⟩
 rintro _ c6 ⟨bJ,G,ae,ad,ab,aa,rfl,W,cl,cm,aF,rfl⟩
 have h:=yI cF
 refine Jp<|Jq<|Je [2,1,2,2,2,2,1,2,2,2] R<|Jd3 R U39 R Z37<|Jb3 R I37 (aF.ld 0 R R)<|Jn3 R U37 R R<|Jn 2 R<|Ob h λbl h cH=>Jf4 [6,10] 102 bl bJ c6 [(5,2),(6,1),(7,2),(8,2),(9,2)] [] tv ?_ ?_
 revert h
 cases du:decide (600<(G.1.length:Int))
 refine JF λh=>Jd3 R U39 R Z37<|Jb3 R I37 (aF.ld 1 R R)<|Jn3 R U37 R R<|Jn 2 R ?_
 cases h
 exact Jg4 tv R
 refine JT λh=>Jn 1 R<|Jz3 R<|Jn 3 R ?_
 cases h
 exact Jg4 tv R
 rintro _ d6 _ ⟨rfl,U,F⟩
 have h:=cH
 refine Jd ?_
 revert h
 cases dv:bl
 refine JF λh=>Jy R<|Js<|Jp<|Je [1,1] R<|Jb4 tv R (Jc4 (haE (aF.stp F).cells) I39 Z39 R)<|Jh4 (κ:=U) 5 R Z39 R (aE.stp<|T13 c d f i o j q n D y z W F) R λd8 aw cy=>Tv<|Jd<|Ju<|Ja2 (l:=[.cell 6 39]) V14 (cd R cy I39 Z39 R R) R ?_
 cases h
 exact⟨(λb=>ren [(15,2),(17,3)]<|U b),ae,ad,ab,aa,R,((aP.stp<|u.tr<|p.tr<|m.tr<|e.tr<|c.tr<|d.tr<|f.tr<|i.tr<|o.tr<|j.tr<|q.tr<|n.tr<|D.tr<|y.tr<|z.tr<|W.tr<|F.tr aw).map (ren [(15,2),(17,3)]) R R),((cl.stp<|F.tr aw).map (ren [(15,2),(17,3)]) R R),((cm.stp<|F.tr aw).map (ren [(15,2),(17,3)]) R R)⟩
 refine JT λh=>Jx R<|Je [2,1] R<|Jf R (Ji4 [.slice none 0 0,.slice none 0 0] R)<|Jh4 (κ:=U) 5 R Z39 R (aE.stp<|T13 c d f i o j q n D y z W F) R λd7 bV cx=>Tv<|Jd<|Ju<|Jw<|Ja2 (l:=[.cell 6 39]) V14 (cd R cx I39 Z39 R R) R ?_
 cases h
 exact⟨U,none,0,none,0,R,(aP.stp<|u.tr<|p.tr<|m.tr<|e.tr<|c.tr<|d.tr<|f.tr<|i.tr<|o.tr<|j.tr<|q.tr<|n.tr<|D.tr<|y.tr<|z.tr<|W.tr<|F.tr bV),Ow.nil,Ow.nil⟩
 refine JT λh=>Jx R<|Je [2,1] R<|Jf R (Ji4 [.slice none 0 0,.slice none 0 0] R)<|Jh4 (κ:=an) 5 R Z39 R (aE.stp<|T4 c d f i) R λed bZ cA=>Tv<|Jd<|Ju<|Jw<|Ja2 (l:=[.cell 6 39]) V14 (cd R cA I39 Z39 R R) R ?_
 cases h
 exact⟨an,none,0,none,0,R,(aP.stp<|T9 u p m e c d f i bZ),Ow.nil,Ow.nil⟩
theorem po {p0:Sig}{k o m n}{p1:Word}(B:Rd (Rp.int .i64) κ w 0 k o p1.Stem) (C:Rd (Rp.int .i64) κ w 0 m n p1.Loop){r:Bool}(h:fO p0 p1=some r):Ret Tryz.prog 76 [.agg #[vi p0.In,vi p0.Out],.agg #[.slice k p1.Stem.length o,.slice m p1.Loop.length n]] w (Pvb κ w r):=by
 unfold fO at h
 refine Jk3 κ F76 R N76 R λD=>Je [1,1,2] R<|Js3 (κ:=κ) 2 R λM w1 q j z=>Tv<|Js3 (κ:=q) 3 R λN aa g e A=>Tv<|Jb 1 R<|Jq<|Js1 (κ:=g) [2,3] none [(0,0),(1,1),(2,2),(3,0),(4,0),(5,1),(6,1),(7,2),(8,2)] [] (by kernel_rfl) (by kernel_rfl) λW c=>?_
 have p:=z.stp (e.tr c)
 refine Jg R (Jc4 (haC p.cells R) I28 Z28 R)<|Ob h λK H h=>Jr3 R C58 (iK (κ:=Mk g) (p0:=p0) H) ?_
 rintro _ J ⟨P,rfl,v⟩
 obtain⟨f,a,T⟩:=Ji v 4 R
 refine⟨(a.cl R),Jn 1 R<|Ob h λI h E=>Jf4 [4] 12 I f J [(3,0),(4,0),(5,1),(6,1),(7,2)] [(8,2)] (a.cl R) ?_ ?_⟩
 revert h
 cases O:K
 refine JF λh=>Ja4 R<|Ja4 R<|Jz3 R<|Jz3 R<|Jn 1 R ?_
 cases h
 exact Jv1 _ (a.cl R) ⟨R,_,Jj3⟩<|KM R
 refine JT λh=>Jg R (Jc4 (haC (A.stp c).cells R) I39 Z39 R)<|Jg R (Jc4 (haC p.cells R) I28 Z28 R)<|Ob h λab F h=>Jr3 R C120 (fh (κ:=Mk f) (p0:=p0) F) ?_
 rintro _ X ⟨Q,rfl,x⟩
 obtain⟨s,b,U⟩:=Ji x 6 R
 have i:=(T5 j e c a b)
 refine⟨((a.tr b).cl R),Ob h λac G h=>Jr3 R C151 (sC (κ:=Mk s) (p0:=p1) (Ji3<|B.stp i) (Ji3<|C.stp i) G) ?_⟩
 rintro _ Y ⟨S,rfl,y⟩
 obtain⟨L,d,V⟩:=Ji y 8 R
 refine⟨((T3 a b d).cl R),Jn 1 R ?_⟩
 cases h
 exact Jv1 _ ((T3 a b d).cl R) ⟨R,_,(b.tr d).wk R⟩<|KM R
 rintro _ Z _ ⟨rfl,t,u⟩
 have h:=E
 refine Jn 1 R<|Jt1<|Jd<|Ju<|Ja2 (l:=[.tmp 4]) V76 (Jp2 R R) R ?_
 cases h
 exact⟨t,R,(D.stp<|T5 j e c a u)⟩
theorem km {p0:Int}{d c a b}{c1_0:Clause}{e f}(k:Rd (Rp.int .i64) κ w 0 d c c1_0.A) (m:Rd (Rp.int .i64) κ w 0 a b c1_0.B) (n:Bc κ w 0 e 91 [.func (.func 255) #[] #[.pointer (some ⟨f,0,none⟩)]]) (o:Bc κ w 0 f 67 [vi c1_0.Kind,.slice d c1_0.A.length c,.slice a c1_0.B.length b]){r:Bool}(h:cP p0 c1_0=some r):Ret Tryz.prog 257 [vi p0,.pointer (some ⟨e,0,none⟩)] w (Pvb κ w r):=by
 unfold cP at h
 refine Jk3 κ F257 R N257 R λp=>Je3 R<|Je [1,2,1,2,2] R<|Jb3 R I91 (n.ld 0 R R)<|Jn 1 R<|Ob h λu q h=>WO.callV R R R R R R R R C255 (je (κ:=Mk κ) (c0:=c1_0) (Ji3 k) (Ji3 m) (o.map (mp [] 0) R R) q) ?_
 rintro _ w1 ⟨s,rfl,j⟩
 obtain⟨g,i,t⟩:=Ji j 2 R
 refine Tv<|Jb 2 R<|Ju<|Ja2 (l:=[.tmp 3]) V257 (Jp2 R R) R ?_
 cases h
 exact⟨g,R,(p.stp i)⟩
theorem gg {m y}{p0:(List Int)}{q o n p}{c1_0:Clause}{s}(f:Rd (Rp.int .i64) κ w 0 m y p0) (C:Rd (Rp.int .i64) κ w 0 q o c1_0.A) (D:Rd (Rp.int .i64) κ w 0 n p c1_0.B) (F:Bc κ w 0 s 67 [vi c1_0.Kind,.slice q c1_0.A.length o,.slice n c1_0.B.length p]){r:Int}(h:cM p0 c1_0=some r):Ret Tryz.prog 47 [.slice m p0.length y,.func (.func 256) #[] #[.pointer (some ⟨s,0,none⟩)]] w (Pvi κ w r):=by
 unfold cM at h
 refine Jk3 κ F47 R N47 R λt=>Je3 R<|Jq<|Jg3 [2,2,2] 1 R<|Jn3 R U37 R R<|Jb 1 R ?_
 have G:(p0.length:Int)<=9223372036854775807:=f.len_le
 refine Ob h λx I u=>?_
 clear h
 refine Jo3 [1] (λE L w'=>∃κ',L=E/\Stp [] κ w κ' w'/\x=cb ()) ?_ ?_
 refine Jv<|Jp3 [0,1,7] (λk E L w'=>∃κ' b,L=(8,vi b)::E/\Stp [] κ w κ' w'/\0<=b/\hV ((p0.length:Int)-b)=k/\cntM (cH p0 c1_0) k b ()=some x) ⟨_,_,⟨κ,0,R,Jj3,(by decide),(by simp),I⟩,(KM R)⟩ ?_
 rintro k _ V ⟨i,b,rfl,c,H,O,h⟩
 rcases k with _ | k
 have e:=h;obtain⟨M,h⟩:=cw (cb (eg ()):Int⊕((Unit)⊕(Unit)))
 have d:decide (b<(p0.length:Int))=false:=Jo2 (by omega)
 refine Je3 R<|Jq<|Jw2 R d<|Jc1<|Jt<|Jt ?_
 cases h
 have h:=e
 refine Jb1 ?_
 cases h
 exact Jw1 _ ⟨i,R,c.wk R,R⟩<|KM R
 obtain⟨M,h,e⟩:=BI h;unfold cH at h
 have d:decide (b<(p0.length:Int))=true:=Jn2 (by omega)
 refine Je3 R<|Jq<|Jv2 R d<|Js<|Jp<|Jq<|Jv<|Je3 R<|Jg3 [2,2,2,2,1,1] 3 R<|Ob h λW v h=>Jc3 R f v U37 Z2<|Jb3 R I2 ((f.stp c).gInt v)<|Ob h λN K h=>WO.callV R R R R R R R R C256 (kD (κ:=Mk i) (c0:=c1_0) (Ji3<|C.stp c) (Ji3<|D.stp c) ((F.stp c).map (mp [] 0) R R) K) ?_
 rintro _ T ⟨Q,rfl,B⟩
 obtain⟨g,j,S⟩:=Ji B 2 R
 refine Tv<|Jd ?_
 revert h
 cases P:N
 refine JF λh=>Jy R<|Js<|Jz<|Jp<|Jf3 R ?_
 have J:bM .i64 (b+1)=b+1:=wr1 H (Jm2 d) G
 rw[J]
 have d:=Jm2 d
 cases h
 exact Jz1 λa ha=>⟨k,_,Ja3 _,⟨g,b+1,R,(c.tr j).wk R,by omega,by omega,e⟩,(ha.mm R)⟩
 refine JT λh=>Jx R<|Je3 R<|Ju<|Ja1<|Jw<|Jw ?_
 cases h
 obtain rfl:=Option.some.inj e
 have h:=yL u
 refine Ja1<|Jq2<|Jw<|Ja2 (l:=[.tmp 4]) V47 (Jp2 R R) R ?_
 cases h
 exact⟨g,R,(t.stp<|c.tr j)⟩
 rintro _ U ⟨z,rfl,A,rfl⟩
 have h:=yI u
 refine Jp<|Je3 R<|Ju<|Ja2 (l:=[.tmp 4]) V47 (Jp2 R R) R ?_
 cases h
 exact⟨z,R,(t.stp A)⟩
theorem gc {m y}{p0:(List Int)}{q o n p}{c1_0:Clause}{s}(f:Rd (Rp.int .i64) κ w 0 m y p0) (C:Rd (Rp.int .i64) κ w 0 q o c1_0.A) (D:Rd (Rp.int .i64) κ w 0 n p c1_0.B) (F:Bc κ w 0 s 67 [vi c1_0.Kind,.slice q c1_0.A.length o,.slice n c1_0.B.length p]){r:Int}(h:cL p0 c1_0=some r):Ret Tryz.prog 47 [.slice m p0.length y,.func (.func 255) #[] #[.pointer (some ⟨s,0,none⟩)]] w (Pvi κ w r):=by
 unfold cL at h
 refine Jk3 κ F47 R N47 R λt=>Je3 R<|Jq<|Jg3 [2,2,2] 1 R<|Jn3 R U37 R R<|Jb 1 R ?_
 have G:(p0.length:Int)<=9223372036854775807:=f.len_le
 refine Ob h λx I u=>?_
 clear h
 refine Jo3 [1] (λE L w'=>∃κ',L=E/\Stp [] κ w κ' w'/\x=cb ()) ?_ ?_
 refine Jv<|Jp3 [0,1,7] (λk E L w'=>∃κ' b,L=(8,vi b)::E/\Stp [] κ w κ' w'/\0<=b/\hV ((p0.length:Int)-b)=k/\cntM (cG p0 c1_0) k b ()=some x) ⟨_,_,⟨κ,0,R,Jj3,(by decide),(by simp),I⟩,(KM R)⟩ ?_
 rintro k _ V ⟨i,b,rfl,c,H,O,h⟩
 rcases k with _ | k
 have e:=h;obtain⟨M,h⟩:=cw (cb (eg ()):Int⊕((Unit)⊕(Unit)))
 have d:decide (b<(p0.length:Int))=false:=Jo2 (by omega)
 refine Je3 R<|Jq<|Jw2 R d<|Jc1<|Jt<|Jt ?_
 cases h
 have h:=e
 refine Jb1 ?_
 cases h
 exact Jw1 _ ⟨i,R,c.wk R,R⟩<|KM R
 obtain⟨M,h,e⟩:=BI h;unfold cG at h
 have d:decide (b<(p0.length:Int))=true:=Jn2 (by omega)
 refine Je3 R<|Jq<|Jv2 R d<|Js<|Jp<|Jq<|Jv<|Je3 R<|Jg3 [2,2,2,2,1,1] 3 R<|Ob h λW v h=>Jc3 R f v U37 Z2<|Jb3 R I2 ((f.stp c).gInt v)<|Ob h λN K h=>WO.callV R R R R R R R R C255 (je (κ:=Mk i) (c0:=c1_0) (Ji3<|C.stp c) (Ji3<|D.stp c) ((F.stp c).map (mp [] 0) R R) K) ?_
 rintro _ T ⟨Q,rfl,B⟩
 obtain⟨g,j,S⟩:=Ji B 2 R
 refine Tv<|Jd ?_
 revert h
 cases P:N
 refine JF λh=>Jy R<|Js<|Jz<|Jp<|Jf3 R ?_
 have J:bM .i64 (b+1)=b+1:=wr1 H (Jm2 d) G
 rw[J]
 have d:=Jm2 d
 cases h
 exact Jz1 λa ha=>⟨k,_,Ja3 _,⟨g,b+1,R,(c.tr j).wk R,by omega,by omega,e⟩,(ha.mm R)⟩
 refine JT λh=>Jx R<|Je3 R<|Ju<|Ja1<|Jw<|Jw ?_
 cases h
 obtain rfl:=Option.some.inj e
 have h:=yL u
 refine Ja1<|Jq2<|Jw<|Ja2 (l:=[.tmp 4]) V47 (Jp2 R R) R ?_
 cases h
 exact⟨g,R,(t.stp<|c.tr j)⟩
 rintro _ U ⟨z,rfl,A,rfl⟩
 have h:=yI u
 refine Jp<|Je3 R<|Ju<|Ja2 (l:=[.tmp 4]) V47 (Jp2 R R) R ?_
 cases h
 exact⟨z,R,(t.stp A)⟩
end Go.Proofs.YtleekpaohfpooaaGreat
