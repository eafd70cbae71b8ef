/- The walks, part 0. By program. -/
import Derived.Test.YtleekpaohfpooaaGreatFnsMVF
import Derived.Test.YtleekpaohfpooaaGreatAlVF
set_option linter.unusedVariables false
set_option linter.unusedSimpArgs false
open Go.IntKind renaming wrap → bM
open Sum renaming inr → cb, inl → eg
open Int renaming toNat → hV
namespace Go.Proofs.YtleekpaohfpooaaGreat
open Go Go.Wk Go.Proofs
set_option maxRecDepth 100000
set_option maxHeartbeats 1000000
variable {w:World}{κ:Col}
theorem wK {a b}{p0:(List Int)}(d:Rd (Rp.int .u8) κ w 0 a b p0){r:Bool}(h:vh p0=some r):Ret Tryz.prog 8 [.slice a p0.length b] w (Pvb κ w r):=by
 unfold vh at h
 refine Jk3 κ F8 R N8 R λc=>Je3 R<|Jg3 [2,2,2,2] 1 R<|Jn3 R U22 R R<|Jb 2 R<|Ju<|Ja2 (l:=[.tmp 2]) V8 (Jp2 R R) R ?_
 cases h
 exact⟨κ,R,c⟩
theorem cW {b a}{p0:dice}{p1:Int}{c}(k:Rd (Rp.int .u8) κ w 0 b a p0.b) (m:Bc κ w 2 c 65 [.slice b p0.b.length a,vi p0.i,.int .u64 p0.h]){r:Int×Int×Int}(h:cV p0 p1=some r):Ret Tryz.prog 25 [.pointer (some ⟨c,0,none⟩),vi p1] w (λv w'=>∃(κ':Col),v=vi r.1/\Ent κ w κ' w'/\Bc κ' w' 2 c 65 [.slice b p0.b.length a,vi r.2.1,.int .u64 r.2.2]):=by
 unfold cV at h
 refine Jk3 κ F25 R N25 R λx=>Je3 R<|Jg3 [2,2,2,2,1,2,2,2,2,1] 2 R<|Jf R (cI R R)<|Jd3 R U65 R Z26<|Jb3 R I26 (m.ld 2 R R)<|Jn 2 R<|Jf R (cI R R)<|Jd3 R U65 R Z26<|Ju3 (κ:=κ) 2 (off:=2) (vc:=[.int .u64 (IntKind.u64.wrap ((IntKind.u64.wrap<|p0.h * 6364136223846793005)+1442695040888963407))]) (cs':=[.slice b p0.b.length a,vi p0.i,.int .u64 (IntKind.u64.wrap ((IntKind.u64.wrap<|p0.h * 6364136223846793005)+1442695040888963407))]) R Z26 R m R λw1 i j=>Tv<|Jd<|Jg3 [2,2,2,1,2,2,2,2] 1 R<|Jf R (cI R R)<|Jd3 R U65 R Z26<|Jb3 R I26 (j.ld 2 R R)<|Jf R (zb R R R (by decide))<|Jn 1 R<|Jf R (Jh2 U26 U2 R R)<|Jb 1 R<|Jq<|Jq<|Js1 (κ:=κ) [2] none [(0,2),(1,2),(2,2),(4,2),(5,2),(6,2),(3,0),(7,0),(8,2),(9,2)] [] (by kernel_rfl) (by kernel_rfl) λA g=>Jn 1 R<|Jf R (cI R R)<|Jd3 R U65 R Z3<|Jn 1 R<|Jf R (cI R R)<|Jd3 R U65 R Z22 ?_
 have e:=j.stp g
 refine Jg R (Jc2 I3 R R<|hvC (e.ld 1 R R) R)<|Jg R (Jc2 I22 R R<|hvC (e.ld 0 R R) R)<|Jn3 R U22 R R<|Jn 1 R<|Jt1<|Jd<|Ob h λo h y=>Jo3 [0,1] (λE L w'=>∃κ',L=(5,vi o.1)::E/\Stp [2] κ A κ' w'/\Bc κ' w' 2 c 65 [.slice b p0.b.length a,vi o.2,.int .u64 (IntKind.u64.wrap ((IntKind.u64.wrap<|p0.h * 6364136223846793005)+1442695040888963407))]) ?_ ?_
 revert h
 cases B:decide (p0.i<(p0.b.length:Int))
 refine JF λh=>Jy R<|Js ?_
 cases h
 exact Jw1 _ ⟨κ,R,Jj3,e⟩<|KM R
 refine JT λh=>Jx R<|Jq<|Js1 (κ:=κ) [0,2] none [(0,2),(1,2),(2,2),(3,2),(5,2),(6,2),(7,2),(4,0),(8,0),(9,2),(10,0),(11,2),(12,2),(13,2)] [] (by kernel_rfl) (by kernel_rfl) λC f=>Jn 2 R<|Jf R (cI R R)<|Jd3 R U65 R Z22<|Jn 1 R<|Jf R (cI R R)<|Jd3 R U65 R Z3 ?_
 have d:=e.stp f
 refine Jg R (Jc2 I22 R R<|hvC (d.ld 0 R R) R)<|Jg R (Jc2 I3 R R<|hvC (d.ld 1 R R) R)<|Ob h λG n h=>Jc3 R k n U22 Z5<|Jg R (Jc2 I5 R R<|hvC ((k.stp<|T3 i g f).gInt n) R)<|Jf R (Jh2 U5 U2 R R)<|Jn 2 R<|Jt1<|Jd<|Jh3 [2,2,2,2,1,2,2,2,1] 2 R<|Jf R (cI R R)<|Jd3 R U65 R Z3<|Jb3 R I3 (d.ld 1 R R)<|Jn 1 R<|Jf R (cI R R)<|Jd3 R U65 R Z3<|Ju3 (κ:=κ) 2 (off:=1) (vc:=[vi<|IntKind.i64.wrap<|p0.i+1]) (cs':=[.slice b p0.b.length a,vi (IntKind.i64.wrap<|p0.i+1),.int .u64 (IntKind.u64.wrap ((IntKind.u64.wrap<|p0.h * 6364136223846793005)+1442695040888963407))]) R Z3 R d R λD s u=>Tv<|Jo ?_
 cases h
 exact Jw1 _ ⟨κ,R,(f.tr s).wk R,u⟩<|KM R
 rintro _ F ⟨p,rfl,q,t⟩
 have h:=y
 refine Jp<|Jg3 [2,2,2,2] 2 R<|Ob h λ_z55 z h=>Jf R (xe R R R<|zx z)<|Jb 1 R<|Ju<|Ja2 (l:=[.tmp 4]) V25 (Jp2 R R) R ?_
 cases h
 exact⟨p,R,(x.stp<|T3 i g q),t⟩
theorem dI {p0:Int}  {r:Int}(h:dF p0=some r):Ret Tryz.prog 62 [vi p0] w (Pvi κ w r):=by
 unfold dF at h
 refine Jk3 κ F62 R N62 R λm=>Je3 R<|Je3 R<|Jq<|Ob h λg o n=>?_
 clear h
 refine Jx1 (λL w'=>∃κ',∃c:Int×Int,L=[(3,vi c.2)]/\Stp [] κ w κ' w'/\g=cb c) ?_ ?_
 refine Jv<|Jy1 (λk L w'=>∃κ',∃b:Int×Int,L=[(0,vi b.1),(3,vi b.2)]/\Stp [] κ w κ' w'/\cu fX k b=some g) ⟨_,_,⟨κ,(p0,(1:Int)),R,Jj3,o⟩,(KM R)⟩ ?_
 rintro k _ t ⟨d,b,rfl,e,h⟩
 rcases k with _ | k
 cases h
 obtain⟨q,h,f⟩:=BI h;unfold fX at h
 refine Jq<|Je3 R ?_
 revert h
 cases p:decide (0<b.1)
 refine JF λh=>Jy R<|Jc1<|Jt<|Jt ?_
 cases h
 have h:=f
 refine Jb1 ?_
 cases h
 exact Jw1 _ ⟨d,(b.1,b.2),R,e.wk R,R⟩<|KM R
 refine JT λh=>Jx R<|Js<|Jp<|Jq<|Jv<|Jf3 R<|Jz<|Jp<|Jf3 R ?_
 cases h
 exact Jz1 λa ha=>⟨k,_,Ja3 _,⟨d,(((IntKind.i64.wrap<|b.1-1):Int),((IntKind.i64.wrap<|b.2 * 2):Int)),R,e.wk R,f⟩,(ha.mm R)⟩
 rintro _ s ⟨i,c,rfl,j,rfl⟩
 have h:=yI n
 refine Jp<|Je3 R<|Ju<|Ja2 (l:=[.tmp 2]) V62 (Jp2 R R) R ?_
 cases h
 exact⟨i,R,(m.stp j)⟩
theorem qx {p0:Int}  {r:Int}(h:kc p0=some r):Ret Tryz.prog 188 [vi p0] w (Pvi κ w r):=by
 unfold kc at h
 refine Jk3 κ F188 R N188 R λa=>Je3 R<|Jq<|Je3 R<|Jv<|Je3 R ?_
 revert h
 cases b:(p0==2)
 refine JF λh=>Jy R<|Je3 R ?_
 revert h
 cases c:(p0==7)
 refine JF λh=>Jy R<|Js<|Jz<|Jp<|Je3 R<|Ju<|Ja2 (l:=[.tmp 2]) V188 (Jp2 R R) R ?_
 cases h
 exact⟨κ,R,a⟩
 refine JT λh=>Jx R<|Je3 R<|Ju<|Ja1<|Jw<|Ja2 (l:=[.tmp 2]) V188 (Jp2 R R) R ?_
 cases h
 exact⟨κ,R,a⟩
 refine JT λh=>Jx R<|Je3 R<|Ju<|Ja1<|Jw<|Ja2 (l:=[.tmp 2]) V188 (Jp2 R R) R ?_
 cases h
 exact⟨κ,R,a⟩
theorem eN {i p}{p0:(List Int)}{p1:Int}(g:Rd (Rp.int .i64) κ w 0 i p p0){r:Bool}(h:dZ p0 p1=some r):Ret Tryz.prog 81 [.slice i p0.length p,vi p1] w (Pvb κ w r):=by
 unfold dZ at h
 refine Jk3 κ F81 R N81 R λj=>Je3 R<|Jq<|Je3 R ?_
 have t:(p0.length:Int)<=9223372036854775807:=g.len_le
 refine Ob h λo v m=>?_
 clear h
 refine Jx1 (λL w'=>∃κ',L=[]/\Stp [] κ w κ' w'/\o=cb ()) ?_ ?_
 refine Jv<|Jp3 [0,1] (λk E L w'=>∃κ' b,L=(5,vi b)::E/\Stp [] κ w κ' w'/\0<=b/\hV ((p0.length:Int)-b)=k/\cntM (fE p0 p1) k b ()=some o) ⟨_,_,⟨κ,0,R,Jj3,(by decide),(by simp),v⟩,(KM R)⟩ ?_
 rintro k _ D ⟨f,b,rfl,d,u,A,h⟩
 rcases k with _ | k
 have e:=h;obtain⟨y,h⟩:=cw (cb (eg ()):Bool⊕((Unit)⊕(Unit)))
 have c:decide (b<(p0.length:Int))=false:=Jo2 (by omega)
 refine Jq<|Jg3 [2,2,2,2] 2 R<|Jn3 R U37 R R<|Jb 1 R<|Jw2 R c<|Jc1<|Jt<|Jt ?_
 cases h
 have h:=e
 refine Jb1 ?_
 cases h
 exact Jw1 _ ⟨f,R,d.wk R,R⟩ KN
 obtain⟨y,h,e⟩:=BI h;unfold fE at h
 have c:decide (b<(p0.length:Int))=true:=Jn2 (by omega)
 refine Jq<|Jg3 [2,2,2,2] 2 R<|Jn3 R U37 R R<|Jb 1 R<|Jv2 R c<|Js<|Jp<|Jq<|Jv<|Jg3 [2,2,2,1,2,2] 2 R<|Ob h λz n h=>Jc3 R g n U37 Z2<|Jb3 R I2 ((g.stp d).gInt n)<|Jb 2 R ?_
 revert h
 cases B:(z==p1)
 refine JF λh=>Jy R<|Js<|Jz<|Jp<|Jf3 R ?_
 have x:bM .i64 (b+1)=b+1:=wr1 u (Jm2 c) t
 rw[x]
 have c:=Jm2 c
 cases h
 exact Jz1 λa ha=>⟨k,_,Ja3 _,⟨f,b+1,R,d.wk R,by omega,by omega,e⟩,(ha.mm R)⟩
 refine JT λh=>Jx R<|Je3 R<|Ju<|Ja1<|Jw<|Jw ?_
 cases h
 obtain rfl:=Option.some.inj e
 have h:=yL m
 refine Ja1<|Jq2<|Jw<|Ja2 (l:=[.tmp 4]) V81 (Jp2 R R) R ?_
 cases h
 exact⟨f,R,(j.stp d)⟩
 rintro _ C ⟨q,rfl,s,rfl⟩
 have h:=yI m
 refine Jp<|Je3 R<|Ju<|Ja2 (l:=[.tmp 4]) V81 (Jp2 R R) R ?_
 cases h
 exact⟨q,R,(j.stp s)⟩
theorem mu {p0:Int}{p1:Int}  {r:Int}(h:kp p0 p1=some r):Ret Tryz.prog 247 [vi p0,vi p1] w (Pvi κ w r):=by
 unfold kp at h
 refine Jk3 κ F247 R N247 R λa=>Je3 R<|Jq<|Je3 R ?_
 revert h
 cases b:decide (p1<p0)
 refine JF λh=>Jy R<|Js<|Jp<|Je3 R<|Ju<|Ja2 (l:=[.tmp 4]) V247 (Jp2 R R) R ?_
 cases h
 exact⟨κ,R,a⟩
 refine JT λh=>Jx R<|Je3 R<|Ju<|Jw<|Ja2 (l:=[.tmp 4]) V247 (Jp2 R R) R ?_
 cases h
 exact⟨κ,R,a⟩
theorem qQ {n A}{p0:(List (List Int))}{p1:Int}{p2:Int}(g:Rd (Rp.sl (Rp.int .i64)) κ w 0 n A p0){r:Int}(h:kW p0 p1 p2=some r):Ret Tryz.prog 95 [.slice n p0.length A,vi p1,vi p2] w (Pvi κ w r):=by
 unfold kW at h
 refine Jk3 κ F95 R N95 R λq=>Je3 R<|Jq<|Je3 R ?_
 have F:(p0.length:Int)<=9223372036854775807:=g.len_le
 refine Ob h λz J s=>?_
 clear h
 refine Jx1 (λL w'=>∃κ',L=[]/\Stp [] κ w κ' w'/\z=cb ()) ?_ ?_
 refine Jv<|Jp3 [0,1,2] (λk E L w'=>∃κ' b,L=(7,vi b)::E/\Stp [] κ w κ' w'/\0<=b/\hV ((p0.length:Int)-b)=k/\cntM (iB p0 p1 p2) k b ()=some z) ⟨_,_,⟨κ,0,R,Jj3,(by decide),(by simp),J⟩,(KM R)⟩ ?_
 rintro k _ N ⟨j,b,rfl,d,G,S,h⟩
 rcases k with _ | k
 have e:=h;obtain⟨M,h⟩:=cw (cb (eg ()):Int⊕((Unit)⊕(Unit)))
 have c:decide (b<(p0.length:Int))=false:=Jo2 (by omega)
 refine Jq<|Jg3 [2,2,2,2] 2 R<|Jn3 R U31 R R<|Jb 1 R<|Jw2 R c<|Jc1<|Jt<|Jt ?_
 cases h
 have h:=e
 refine Jb1 ?_
 cases h
 exact Jw1 _ ⟨j,R,d.wk R,R⟩ KN
 obtain⟨M,h,e⟩:=BI h;unfold iB at h
 have c:decide (b<(p0.length:Int))=true:=Jn2 (by omega)
 refine Jq<|Jg3 [2,2,2,2] 2 R<|Jn3 R U31 R R<|Jb 1 R<|Jv2 R c<|Js<|Jp<|Jq<|Jv<|Jg3 [2,2,2,1,2,1,2,2,2,2,2,2,1,2,1,2,2,2] 2 R<|Ob h λZ t h=>Jc3 R g t U31 Z37 ?_
 have f:=g.stp d
 obtain⟨P,V,o,H⟩:=f.gSl t
 refine Jb3 R I37 H<|Ob h λO u h=>Jc3 R o u U37 Z2<|Jb3 R I2 (o.gInt u)<|Jn 3 R<|Ob h λy h D=>Jf4 [0,1,2,7] 31 y j N [(9,2),(10,2),(11,2),(12,1),(13,2),(14,1),(15,2),(16,2),(17,2)] [] tv ?_ ?_
 revert h
 cases T:(O==p1)
 refine JF λh=>Jn 3 R<|Jz3 R<|Jn 1 R<|Jz3 R<|Jn 3 R ?_
 cases h
 exact Jg4 tv R
 refine JT λh=>Jn 2 R<|Ob h λaa v h=>Jc3 R f v U31 Z37 ?_
 obtain⟨Q,W,p,I⟩:=f.gSl v
 refine Jb3 R I37 I<|Ob h λab x h=>Jc3 R p x U37 Z2<|Jb3 R I2 (p.gInt x)<|Jn 3 R ?_
 cases h
 exact Jg4 tv R
 rintro _ X _ ⟨rfl,i,m⟩
 have h:=D
 refine Jd ?_
 revert h
 cases U:y
 refine JF λh=>Jy R<|Js<|Jz<|Jp<|Jf3 R ?_
 have K:bM .i64 (b+1)=b+1:=wr1 G (Jm2 c) F
 rw[K]
 have c:=Jm2 c
 cases h
 exact Jz1 λa ha=>⟨k,_,Ja3 _,⟨i,b+1,R,(d.tr m).wk R,by omega,by omega,e⟩,(ha.mm R)⟩
 refine JT λh=>Jx R<|Je3 R<|Ju<|Ja1<|Jw<|Jw ?_
 cases h
 obtain rfl:=Option.some.inj e
 have h:=yL s
 refine Ja1<|Jq2<|Jw<|Ja2 (l:=[.tmp 6]) V95 (Jp2 R R) R ?_
 cases h
 exact⟨i,R,(q.stp<|d.tr m)⟩
 rintro _ Y ⟨B,rfl,C,rfl⟩
 have h:=yI s
 refine Jp<|Je3 R<|Ju<|Ja2 (l:=[.tmp 6]) V95 (Jp2 R R) R ?_
 cases h
 exact⟨B,R,(q.stp C)⟩
theorem eb {b c}{p0:(List Int)}(k:Rd (Rp.int .i64) κ w 0 b c p0){r:(List Int)}(h:dw p0=some r):Ret Tryz.prog 131 [.slice b p0.length c] w (Pvs E6 2 κ w r):=by
 unfold dw at h
 refine Jk3 κ F131 R N131 R λm=>Je3 R<|Je [1,2,1,2] R<|Jx3 (κ:=κ) (E:=E6) 2 R Y37 bS R λp q w1 d a i=>Tv<|Jn 1 R<|Ob h λt n h=>Jy3 (κ:=d) (E:=E6) 2 [] R Y37 bS R i (Sl.srcP (bY _)<|k.stp a) bU n R λg o s e f j=>Tv<|Jb 1 R<|Ju<|Ja2 (l:=[.tmp 2]) V131 (Jp2 R R) R ?_
 cases h
 exact⟨e,g,o,R,(m.stp<|a.tr f),j⟩
theorem nf {i p}{p0:(List Int)}{p1:Int}(g:Rd (Rp.int .i64) κ w 0 i p p0){r:Bool}(h:kV p0 p1=some r):Ret Tryz.prog 197 [.slice i p0.length p,vi p1] w (Pvb κ w r):=by
 unfold kV at h
 refine Jk3 κ F197 R N197 R λj=>Je3 R<|Jq<|Je3 R ?_
 have t:(p0.length:Int)<=9223372036854775807:=g.len_le
 refine Ob h λo v m=>?_
 clear h
 refine Jx1 (λL w'=>∃κ',L=[]/\Stp [] κ w κ' w'/\o=cb ()) ?_ ?_
 refine Jv<|Jp3 [0,1] (λk E L w'=>∃κ' b,L=(5,vi b)::E/\Stp [] κ w κ' w'/\0<=b/\hV ((p0.length:Int)-b)=k/\cntM (j9 p0 p1) k b ()=some o) ⟨_,_,⟨κ,0,R,Jj3,(by decide),(by simp),v⟩,(KM R)⟩ ?_
 rintro k _ D ⟨f,b,rfl,d,u,A,h⟩
 rcases k with _ | k
 have e:=h;obtain⟨y,h⟩:=cw (cb (eg ()):Bool⊕((Unit)⊕(Unit)))
 have c:decide (b<(p0.length:Int))=false:=Jo2 (by omega)
 refine Jq<|Jg3 [2,2,2,2] 2 R<|Jn3 R U37 R R<|Jb 1 R<|Jw2 R c<|Jc1<|Jt<|Jt ?_
 cases h
 have h:=e
 refine Jb1 ?_
 cases h
 exact Jw1 _ ⟨f,R,d.wk R,R⟩ KN
 obtain⟨y,h,e⟩:=BI h;unfold j9 at h
 have c:decide (b<(p0.length:Int))=true:=Jn2 (by omega)
 refine Jq<|Jg3 [2,2,2,2] 2 R<|Jn3 R U37 R R<|Jb 1 R<|Jv2 R c<|Js<|Jp<|Jq<|Jv<|Jg3 [2,2,2,1,2,2] 2 R<|Ob h λz n h=>Jc3 R g n U37 Z2<|Jb3 R I2 ((g.stp d).gInt n)<|Jb 2 R ?_
 revert h
 cases B:(z==p1)
 refine JF λh=>Jy R<|Js<|Jz<|Jp<|Jf3 R ?_
 have x:bM .i64 (b+1)=b+1:=wr1 u (Jm2 c) t
 rw[x]
 have c:=Jm2 c
 cases h
 exact Jz1 λa ha=>⟨k,_,Ja3 _,⟨f,b+1,R,d.wk R,by omega,by omega,e⟩,(ha.mm R)⟩
 refine JT λh=>Jx R<|Je3 R<|Ju<|Ja1<|Jw<|Jw ?_
 cases h
 obtain rfl:=Option.some.inj e
 have h:=yL m
 refine Ja1<|Jq2<|Jw<|Ja2 (l:=[.tmp 4]) V197 (Jp2 R R) R ?_
 cases h
 exact⟨f,R,(j.stp d)⟩
 rintro _ C ⟨q,rfl,s,rfl⟩
 have h:=yI m
 refine Jp<|Je3 R<|Ju<|Ja2 (l:=[.tmp 4]) V197 (Jp2 R R) R ?_
 cases h
 exact⟨q,R,(j.stp s)⟩
theorem pc {m t}{p0:(List Int)}{a1 u}{p1:(List Int)}(i:Rd (Rp.int .i64) κ w 0 m t p0) (n:Rd (Rp.int .i64) κ w 0 a1 u p1){r:Bool}(h:iw p0 p1=some r):Ret Tryz.prog 198 [.slice m p0.length t,.slice a1 p1.length u] w (Pvb κ w r):=by
 unfold iw at h
 refine Jk3 κ F198 R N198 R λj=>Je3 R<|Jq<|Jg3 [2,2,2,2,2] 1 R<|Jn3 R U37 R R<|Jn 1 R<|Jn3 R U37 R R<|Jb 1 R ?_
 revert h
 cases H:((p0.length:Int) !=(p1.length:Int))
 refine JF λh=>Jy R<|Js<|Jp<|Jq<|Je3 R ?_
 have y:(p0.length:Int)<=9223372036854775807:=i.len_le
 refine Ob h λs A o=>?_
 clear h
 refine Jx1 (λL w'=>∃κ',L=[]/\Stp [] κ w κ' w'/\s=cb ()) ?_ ?_
 refine Jv<|Jp3 [0,1] (λk E L w'=>∃κ' b,L=(5,vi b)::E/\Stp [] κ w κ' w'/\0<=b/\hV ((p0.length:Int)-b)=k/\cntM (fj p0 p1) k b ()=some s) ⟨_,_,⟨κ,0,R,Jj3,(by decide),(by simp),A⟩,(KM R)⟩ ?_
 rintro k _ M ⟨e,b,rfl,d,z,G,h⟩
 rcases k with _ | k
 have g:=h;obtain⟨C,h⟩:=cw (cb (eg ()):Bool⊕((Unit)⊕(Unit)))
 have c:decide (b<(p0.length:Int))=false:=Jo2 (by omega)
 refine Jq<|Jg3 [2,2,2,2] 2 R<|Jn3 R U37 R R<|Jb 1 R<|Jw2 R c<|Jc1<|Jt<|Jt ?_
 cases h
 have h:=g
 refine Jb1 ?_
 cases h
 exact Jw1 _ ⟨e,R,d.wk R,R⟩ KN
 obtain⟨C,h,g⟩:=BI h;unfold fj at h
 have c:decide (b<(p0.length:Int))=true:=Jn2 (by omega)
 refine Jq<|Jg3 [2,2,2,2] 2 R<|Jn3 R U37 R R<|Jb 1 R<|Jv2 R c<|Js<|Jp<|Jq<|Jv<|Jq<|Js1 (κ:=e) [0] none [(0,2),(1,2),(2,2),(4,2),(5,2),(6,2),(3,0),(7,0),(8,2)] [] (by kernel_rfl) (by kernel_rfl) λJ f=>Jn 2 R<|Ob h λD p h=>Jc3 R i p U37 Z2<|Jn 2 R<|Ob h λF q h=>Jc3 R n q U37 Z2<|Jg R (Jc2 I2 R R<|hvC ((i.stp<|d.tr f).gInt p) R)<|Jg R (Jc2 I2 R R<|hvC ((n.stp<|d.tr f).gInt q) R)<|Jn 1 R<|Jt1<|Jd ?_
 revert h
 cases I:(D !=F)
 refine JF λh=>Jy R<|Js<|Jz<|Jp<|Jf3 R ?_
 have B:bM .i64 (b+1)=b+1:=wr1 z (Jm2 c) y
 rw[B]
 have c:=Jm2 c
 cases h
 exact Jz1 λa ha=>⟨k,_,Ja3 _,⟨e,b+1,R,(d.tr f).wk R,by omega,by omega,g⟩,(ha.mm R)⟩
 refine JT λh=>Jx R<|Je3 R<|Ju<|Ja1<|Jw<|Jw ?_
 cases h
 obtain rfl:=Option.some.inj g
 have h:=yL o
 refine Ja1<|Jq2<|Jw<|Ja2 (l:=[.tmp 4]) V198 (Jp2 R R) R ?_
 cases h
 exact⟨e,R,(j.stp<|d.tr f)⟩
 rintro _ K ⟨v,rfl,x,rfl⟩
 have h:=yI o
 refine Jp<|Je3 R<|Ju<|Ja2 (l:=[.tmp 4]) V198 (Jp2 R R) R ?_
 cases h
 exact⟨v,R,(j.stp x)⟩
 refine JT λh=>Jx R<|Je3 R<|Ju<|Jw<|Ja2 (l:=[.tmp 4]) V198 (Jp2 R R) R ?_
 cases h
 exact⟨κ,R,j⟩
theorem rH {m q j o p n}{p0:Parity}(ai:Rd (Rp.int .i64) κ w 0 m q p0.Arena.Owner) (X:Rd (Rp.sl (Rp.int .i64)) κ w 0 j o p0.Arena.Next) (af:Rd (Rp.int .i64) κ w 0 p n p0.Prio){r:l7Game}(h:pe p0=some r):Ret Tryz.prog 201 [.agg #[.slice m p0.Arena.Owner.length q,.slice j p0.Arena.Next.length o,.slice p p0.Prio.length n]] w (λv w'=>∃(κ':Col) (bJ:Option Addr) (bP:Nat) (bK:Option Addr) (bQ:Nat) (bL:Option Addr) (bR:Nat) (bN:Option Addr) (bT:Nat) (bO:Option Addr) (bV:Nat),v= .agg #[.slice bJ r.owner.length bP,.slice bK r.prio.length bQ,.slice bL r.next.length bR,.slice bN r.prev.length bT,.slice bO r.pick.length bV]/\Ent κ w κ' w'/\Rd (Rp.int .i64) κ' w' 0 bJ bP r.owner/\Rd (Rp.int .i64) κ' w' 0 bK bQ r.prio/\Rd (Rp.sl (Rp.int .i64)) κ' w' 0 bL bR r.next/\Oc (Ep.own E6 2) 37 κ' w' 5 bN bT r.prev/\Oc E6 2 κ' w' 6 bO bV r.pick):=by
 unfold pe at h
 refine Jk3 κ F201 R N201 R λdb=>Je [1,1] R<|Js3 (κ:=κ) 2 R λdE w1 b6 O c0=>Tv<|Jt3 (κ:=b6) 3 R X210 R λdF dx ao D c7=>Tv<|Jd<|Je [2,1,2,2] R<|Jd3 R U79 R Z37 ?_
 have a1:=c0.stp D
 refine Jb3 R I37 (a1.ld 2 R R)<|Jn3 R U37 R R<|Jb 1 R<|Jq<|Ob h λc aw h=>Ob h λd ax h=>Jo3 [1,2,3] (λE L w'=>∃κ' s aI aE aH aF ar aG G F ag ah,L=(4,.pointer (some ⟨s,0,none⟩))::E/\Stp [4,5,6] ao dx κ' w'/\Rd (Rp.int .i64) κ' w' 0 aI aE ((⟨p0.Arena.Owner,p0.Prio,p0.Arena.Next,c,d⟩:l7Game).owner)/\Rd (Rp.int .i64) κ' w' 0 aH aF ((⟨p0.Arena.Owner,p0.Prio,p0.Arena.Next,c,d⟩:l7Game).prio)/\Rd (Rp.sl<|Rp.int .i64) κ' w' 0 ar aG ((⟨p0.Arena.Owner,p0.Prio,p0.Arena.Next,c,d⟩:l7Game).next)/\Oc (Ep.own E6 2) 37 κ' w' 4 G F ((⟨p0.Arena.Owner,p0.Prio,p0.Arena.Next,c,d⟩:l7Game).prev)/\Oc E6 2 κ' w' 5 ag ah ((⟨p0.Arena.Owner,p0.Prio,p0.Arena.Next,c,d⟩:l7Game).pick)/\Bc κ' w' 6 s 210 [.slice aI ((⟨p0.Arena.Owner,p0.Prio,p0.Arena.Next,c,d⟩:l7Game).owner).length aE,.slice aH ((⟨p0.Arena.Owner,p0.Prio,p0.Arena.Next,c,d⟩:l7Game).prio).length aF,.slice ar ((⟨p0.Arena.Owner,p0.Prio,p0.Arena.Next,c,d⟩:l7Game).next).length aG,.slice G ((⟨p0.Arena.Owner,p0.Prio,p0.Arena.Next,c,d⟩:l7Game).prev).length F,.slice ag ((⟨p0.Arena.Owner,p0.Prio,p0.Arena.Next,c,d⟩:l7Game).pick).length ah]) ?_ ?_
 refine WC.rxt (κ:=ao) [2] none (by kernel_rfl) λd0 t=>Jq1 (fuel:=5) [(0,2),(1,2),(3,2),(5,2),(6,2),(8,2),(10,2),(2,0),(4,0),(7,0)] (by kernel_rfl) (by kernel_rfl) R<|Jd3 R U79 R Z75<|Jd3 R U75 R Z37<|Jd3 R U79 R Z37<|Jd3 R U79 R Z75<|Jd3 R U75 R Z31<|Jn 2 R ?_
 have a0:=a1.stp t
 refine Jg R (Jc2 I37 R R<|hvC (a0.ld 0 R R) R)<|Jg R (Jc2 I37 R R<|hvC (a0.ld 2 R R) R)<|Jg R (Jc2 I31 R R<|hvC (a0.ld 1 R R) R)<|Jp1<|WA.fork3 (fuel:=4) 9 11 13 (by kernel_rfl) R ?_ ?_ ?_
 refine Jl1 (κ:=ao) (E:=(Ep.own E6 2)) (z:=(([]:List Int):(List Int))) 4 R R R R R R R Y31 bZ R R R R R (λ_ _ _=>⟨none,0,R,Ow.nil⟩) (Ju2 aw) λf e d6 ba x bz=>⟨(x.cl R),Jp1<|WA.fork2 (fuel:=3) 11 13 (by kernel_rfl) R ?_ ?_⟩
 have aO:=(T4 O D t x)
 exact Jl1 (κ:=ba) (E:=E6) (z:=(0:Int)) 5 R R R R R R R Y37 bS R R R R R (λ_ _ _=>R) (Ju2 ax) λi g ea ch N cX=>⟨((x.tr N).cl R),Jp1<|Jq1 (fuel:=0) [(12,2),(13,1),(14,1)] (by kernel_rfl) (by kernel_rfl) R<|Jf R (Ji4 [.slice m p0.Arena.Owner.length q,.slice p p0.Prio.length n,.slice j p0.Arena.Next.length o,.slice f c.length e,.slice i d.length g] R)<|Jt3 (κ:=ch) 6 R X210 R λs eb bb P cY=>⟨((T3 x N P).cl R),Jh4 (κ:=bb) 6 R Z210 R cY R λec ab cZ=>⟨((T4 x N P ab).cl R),Jp1<|Jr1 [] (by kernel_rfl) (by kernel_rfl) R<|Jo<|Jw1 _ ⟨bb,s,m,q,p,n,j,o,f,e,i,g,R,(T5 t x N P ab).wk R,(ai.stp<|T4 aO N P ab),(af.stp<|T4 aO N P ab),(X.stp<|T4 aO N P ab),(bz.stp<|T3 N P ab),(cX.stp<|P.tr ab),cZ⟩<|KM R⟩⟩⟩
 have aP:=(T4 O D t x)
 exact Jt3 (κ:=ba) 5 R X210 R λs ed ci Q c1=>⟨((x.tr Q).cl R),Jp1<|Jq1 (fuel:=0) [(11,1),(12,2),(14,1)] (by kernel_rfl) (by kernel_rfl) R<|Jl1 (κ:=ci) (E:=E6) (z:=(0:Int)) 6 R R R R R R R Y37 bS R R R R R (λ_ _ _=>R) (Ju2 ax) λi g ee bc S c2=>⟨((T3 x Q S).cl R),Jf R (Ji4 [.slice m p0.Arena.Owner.length q,.slice p p0.Prio.length n,.slice j p0.Arena.Next.length o,.slice f c.length e,.slice i d.length g] R)<|Jh4 (κ:=bc) 5 R Z210 R (c1.stp S) R λef ac c3=>⟨((T4 x Q S ac).cl R),Jp1<|Jr1 [] (by kernel_rfl) (by kernel_rfl) R<|Jo<|Jw1 _ ⟨(λb=>ren [(6,5),(5,6)]<|bc b),s,m,q,p,n,j,o,f,e,i,g,R,(Jy2 ((T5 t x Q S ac).wk R) [(6,5),(5,6)] R),((ai.stp<|T4 aP Q S ac).map (ren [(6,5),(5,6)]) R R),((af.stp<|T4 aP Q S ac).map (ren [(6,5),(5,6)]) R R),((X.stp<|T4 aP Q S ac).map (ren [(6,5),(5,6)]) R R),((bz.stp<|T3 Q S ac).map (ren [(6,5),(5,6)]) R R),((c2.stp ac).map (ren [(6,5),(5,6)]) R R),(c3.map (ren [(6,5),(5,6)]) R R)⟩<|KM R⟩⟩⟩
 refine Jl1 (κ:=ao) (E:=E6) (z:=(0:Int)) 4 R R R R R R R Y37 bS R R R R R (λ_ _ _=>R) (Ju2 ax) λi g eh bd y bA=>⟨(y.cl R),Jp1<|WA.fork2 (fuel:=3) 9 13 (by kernel_rfl) R ?_ ?_⟩
 have aQ:=(T4 O D t y)
 exact Jl1 (κ:=bd) (E:=(Ep.own E6 2)) (z:=(([]:List Int):(List Int))) 5 R R R R R R R Y31 bZ R R R R R (λ_ _ _=>⟨none,0,R,Ow.nil⟩) (Ju2 aw) λf e ei cj T c4=>⟨((y.tr T).cl R),Jp1<|Jq1 (fuel:=0) [(12,2),(13,1),(14,1)] (by kernel_rfl) (by kernel_rfl) R<|Jf R (Ji4 [.slice m p0.Arena.Owner.length q,.slice p p0.Prio.length n,.slice j p0.Arena.Next.length o,.slice f c.length e,.slice i d.length g] R)<|Jt3 (κ:=cj) 6 R X210 R λs ej be U c5=>⟨((T3 y T U).cl R),Jh4 (κ:=be) 6 R Z210 R c5 R λek ad c6=>⟨((T4 y T U ad).cl R),Jp1<|Jr1 [] (by kernel_rfl) (by kernel_rfl) R<|Jo<|Jw1 _ ⟨(λb=>ren [(5,4),(4,5)]<|be b),s,m,q,p,n,j,o,f,e,i,g,R,(Jy2 ((T5 t y T U ad).wk R) [(5,4),(4,5)] R),((ai.stp<|T4 aQ T U ad).map (ren [(5,4),(4,5)]) R R),((af.stp<|T4 aQ T U ad).map (ren [(5,4),(4,5)]) R R),((X.stp<|T4 aQ T U ad).map (ren [(5,4),(4,5)]) R R),((c4.stp<|U.tr ad).map (ren [(5,4),(4,5)]) R R),((bA.stp<|T3 T U ad).map (ren [(5,4),(4,5)]) R R),(c6.map (ren [(5,4),(4,5)]) R R)⟩<|KM R⟩⟩⟩
 have aR:=(T4 O D t y)
 exact Jt3 (κ:=bd) 5 R X210 R λs el ck V c8=>⟨((y.tr V).cl R),Jp1<|Jq1 (fuel:=0) [(9,1),(12,2),(14,1)] (by kernel_rfl) (by kernel_rfl) R<|Jl1 (κ:=ck) (E:=(Ep.own E6 2)) (z:=(([]:List Int):(List Int))) 6 R R R R R R R Y31 bZ R R R R R (λ_ _ _=>⟨none,0,R,Ow.nil⟩) (Ju2 aw) λf e em bf W c9=>⟨((T3 y V W).cl R),Jf R (Ji4 [.slice m p0.Arena.Owner.length q,.slice p p0.Prio.length n,.slice j p0.Arena.Next.length o,.slice f c.length e,.slice i d.length g] R)<|Jh4 (κ:=bf) 5 R Z210 R (c8.stp W) R λen ae da=>⟨((T4 y V W ae).cl R),Jp1<|Jr1 [] (by kernel_rfl) (by kernel_rfl) R<|Jo<|Jw1 _ ⟨(λb=>ren [(6,4),(4,5),(5,6)]<|bf b),s,m,q,p,n,j,o,f,e,i,g,R,(Jy2 ((T5 t y V W ae).wk R) [(6,4),(4,5),(5,6)] R),((ai.stp<|T4 aR V W ae).map (ren [(6,4),(4,5),(5,6)]) R R),((af.stp<|T4 aR V W ae).map (ren [(6,4),(4,5),(5,6)]) R R),((X.stp<|T4 aR V W ae).map (ren [(6,4),(4,5),(5,6)]) R R),((c9.stp ae).map (ren [(6,4),(4,5),(5,6)]) R R),((bA.stp<|T3 V W ae).map (ren [(6,4),(4,5),(5,6)]) R R),(da.map (ren [(6,4),(4,5),(5,6)]) R R)⟩<|KM R⟩⟩⟩
 refine Jt3 (κ:=ao) 4 R X210 R λs eo bg A bo=>⟨(A.cl R),Jp1<|WA.fork2 (fuel:=3) 9 11 (by kernel_rfl) R ?_ ?_⟩
 have aS:=(T4 O D t A)
 exact Jl1 (κ:=bg) (E:=(Ep.own E6 2)) (z:=(([]:List Int):(List Int))) 5 R R R R R R R Y31 bZ R R R R R (λ_ _ _=>⟨none,0,R,Ow.nil⟩) (Ju2 aw) λf e dO b1 I cr=>⟨((A.tr I).cl R),Jp1<|Jq1 (fuel:=0) [(11,1),(12,2),(14,1)] (by kernel_rfl) (by kernel_rfl) R<|Jl1 (κ:=b1) (E:=E6) (z:=(0:Int)) 6 R R R R R R R Y37 bS R R R R R (λ_ _ _=>R) (Ju2 ax) λi g dP a6 J cs=>⟨((T3 A I J).cl R),Jf R (Ji4 [.slice m p0.Arena.Owner.length q,.slice p p0.Prio.length n,.slice j p0.Arena.Next.length o,.slice f c.length e,.slice i d.length g] R)<|Jh4 (κ:=a6) 4 R Z210 R (bo.stp<|I.tr J) R λdQ Z ct=>⟨((T4 A I J Z).cl R),Jp1<|Jr1 [] (by kernel_rfl) (by kernel_rfl) R<|Jo<|Jw1 _ ⟨(λb=>ren [(5,4),(6,5),(4,6)]<|a6 b),s,m,q,p,n,j,o,f,e,i,g,R,(Jy2 ((T5 t A I J Z).wk R) [(5,4),(6,5),(4,6)] R),((ai.stp<|T4 aS I J Z).map (ren [(5,4),(6,5),(4,6)]) R R),((af.stp<|T4 aS I J Z).map (ren [(5,4),(6,5),(4,6)]) R R),((X.stp<|T4 aS I J Z).map (ren [(5,4),(6,5),(4,6)]) R R),((cr.stp<|J.tr Z).map (ren [(5,4),(6,5),(4,6)]) R R),((cs.stp Z).map (ren [(5,4),(6,5),(4,6)]) R R),(ct.map (ren [(5,4),(6,5),(4,6)]) R R)⟩<|KM R⟩⟩⟩
 have aT:=(T4 O D t A)
 exact Jl1 (κ:=bg) (E:=E6) (z:=(0:Int)) 5 R R R R R R R Y37 bS R R R R R (λ_ _ _=>R) (Ju2 ax) λi g dR b2 K cv=>⟨((A.tr K).cl R),Jp1<|Jq1 (fuel:=0) [(9,1),(12,2),(14,1)] (by kernel_rfl) (by kernel_rfl) R<|Jl1 (κ:=b2) (E:=(Ep.own E6 2)) (z:=(([]:List Int):(List Int))) 6 R R R R R R R Y31 bZ R R R R R (λ_ _ _=>⟨none,0,R,Ow.nil⟩) (Ju2 aw) λf e dS a7 M cx=>⟨((T3 A K M).cl R),Jf R (Ji4 [.slice m p0.Arena.Owner.length q,.slice p p0.Prio.length n,.slice j p0.Arena.Next.length o,.slice f c.length e,.slice i d.length g] R)<|Jh4 (κ:=a7) 4 R Z210 R (bo.stp<|K.tr M) R λdT aa cy=>⟨((T4 A K M aa).cl R),Jp1<|Jr1 [] (by kernel_rfl) (by kernel_rfl) R<|Jo<|Jw1 _ ⟨(λb=>ren [(6,4),(4,6)]<|a7 b),s,m,q,p,n,j,o,f,e,i,g,R,(Jy2 ((T5 t A K M aa).wk R) [(6,4),(4,6)] R),((ai.stp<|T4 aT K M aa).map (ren [(6,4),(4,6)]) R R),((af.stp<|T4 aT K M aa).map (ren [(6,4),(4,6)]) R R),((X.stp<|T4 aT K M aa).map (ren [(6,4),(4,6)]) R R),((cx.stp aa).map (ren [(6,4),(4,6)]) R R),((cv.stp<|M.tr aa).map (ren [(6,4),(4,6)]) R R),(cy.map (ren [(6,4),(4,6)]) R R)⟩<|KM R⟩⟩⟩
 rintro _ bW ⟨aM,s,aI,aE,aH,aF,ar,aG,G,F,ag,ah,rfl,aA,cz,cC,cE,cG,cH,bt⟩
 refine Jp<|Jq<|Je3 R ?_
 have de:(p0.Prio.length:Int)<=9223372036854775807:=af.len_le
 refine Ob h λbH dr dc=>?_
 clear h
 refine Jo3 [2,4] (λE L w'=>∃κ',∃al:(List<|List Int)×(List Int),L=E/\Stp [4,5,8] aM bW κ' w'/\Oc (Ep.own E6 2) 37 κ' w' 4 G F al.1/\((⟨p0.Arena.Owner,p0.Prio,p0.Arena.Next,c,d⟩:l7Game).prev).length=al.1.length/\Oc E6 2 κ' w' 5 ag ah al.2/\((⟨p0.Arena.Owner,p0.Prio,p0.Arena.Next,c,d⟩:l7Game).pick).length=al.2.length/\bH=cb al) ?_ ?_
 refine Jv<|Jp3 [1,2,3,4] (λk E L w'=>∃κ' u,∃C:(List<|List Int)×(List Int),L=(5,vi u)::E/\Stp [4,5,8] aM bW κ' w'/\Oc (Ep.own E6 2) 37 κ' w' 4 G F C.1/\((⟨p0.Arena.Owner,p0.Prio,p0.Arena.Next,c,d⟩:l7Game).prev).length=C.1.length/\Oc E6 2 κ' w' 5 ag ah C.2/\((⟨p0.Arena.Owner,p0.Prio,p0.Arena.Next,c,d⟩:l7Game).pick).length=C.2.length/\0<=u/\hV ((p0.Prio.length:Int)-u)=k/\cntM (mf p0) k u C=some bH) ⟨_,_,⟨aM,0,(((⟨p0.Arena.Owner,p0.Prio,p0.Arena.Next,c,d⟩:l7Game).prev:(List<|List Int)),((⟨p0.Arena.Owner,p0.Prio,p0.Arena.Next,c,d⟩:l7Game).pick:(List Int))),R,Jj3,cG,R,cH,R,(by decide),(by simp),dr⟩,(KM R)⟩ ?_
 rintro k _ dV ⟨a9,u,C,rfl,ap,bp,bC,aX,a3,df,dI,h⟩
 rcases k with _ | k
 have a2:=h;obtain⟨dv,h⟩:=cw (cb (eg C):l7Game⊕(((List (List Int))×(List Int))⊕((List (List Int))×(List Int))))
 have aj:decide (u<(p0.Prio.length:Int))=false:=Jo2 (by omega)
 refine Jq<|Je3 R<|Jw2 R aj<|Jc1<|Jt<|Jt ?_
 cases h
 have h:=a2
 refine Jb1 ?_
 cases h
 exact Jw1 _ ⟨a9,(C.1,C.2),R,ap.wk R,bp,bC,aX,a3,R⟩<|KM R
 obtain⟨dv,h,a2⟩:=BI h;unfold mf at h
 have aj:decide (u<(p0.Prio.length:Int))=true:=Jn2 (by omega)
 refine Jq<|Je3 R<|Jv2 R aj<|Js<|Jp<|Jq<|Jv<|Je [2,1,2,2,1] R<|Jd3 R U210 R Z37 ?_
 have bq:=bt.stp ap
 refine Jb3 R I37 (bq.ld 4 R R)<|Jn 1 R<|Ob h λep du h=>Jf R (Jf2 aX.rdc du U37 Z2 R R a3 R)<|Ob h λb0 bG h=>Jk1 (κ:=a9) (E:=E6) 5 [] R R R R R R R R Z2 R R R R aX bG λbX aN aq cD=>Tv<|?_
 have dk:((⟨p0.Arena.Owner,p0.Prio,p0.Arena.Next,c,d⟩:l7Game).pick).length=b0.length:=a3.trans (Jt2 bG).2.2.2.symm
 refine Jd<|Je3 R<|Ob h λbI ds dd=>?_
 clear h
 refine Jo3 [1,2,3,4,5] (λE L w'=>∃κ',∃az:Int×(List<|List Int),L=E/\Stp [4,8] aN bX κ' w'/\Oc (Ep.own E6 2) 37 κ' w' 4 G F az.2/\((⟨p0.Arena.Owner,p0.Prio,p0.Arena.Next,c,d⟩:l7Game).prev).length=az.2.length/\bI=cb az) ?_ ?_
 refine Jv<|Jp3 [1,2,3,4,5] (λk E L w'=>∃κ',∃H:Int×(List<|List Int),L=(6,vi H.1)::E/\Stp [4,8] aN bX κ' w'/\Oc (Ep.own E6 2) 37 κ' w' 4 G F H.2/\((⟨p0.Arena.Owner,p0.Prio,p0.Arena.Next,c,d⟩:l7Game).prev).length=H.2.length/\cu (mg p0 u) k H=some bI) ⟨_,_,⟨aN,((0:Int),C.1),R,Jj3,(bp.stp aq),bC,ds⟩,(KM R)⟩ ?_
 rintro k _ dw ⟨an,H,rfl,au,aY,Y,h⟩
 rcases k with _ | k
 cases h
 obtain⟨dK,h,bB⟩:=BI h;unfold mg at h
 refine Jq<|Jg3 [2,2,2,1,2,2,1,2,2] 1 R<|Jd3 R U79 R Z75<|Jd3 R U75 R Z31 ?_
 have br:=a1.stp (T4 aA ap aq au)
 refine Jb3 R I31 (br.ld 1 R R)<|Jn 1 R<|Ob h λdy bD h=>Jc3 R X bD U31 Z37 ?_
 have aZ:=X.stp (T6 O D aA ap aq au)
 obtain⟨dB,dL,dG,dg⟩:=aZ.gSl bD
 refine Jb3 R I37 dg<|Jn3 R U37 R R<|Jb 1 R ?_
 revert h
 cases dJ:decide (H.1<(dy.length:Int))
 refine JF λh=>Jy R<|Jc1<|Jt<|Jt ?_
 cases h
 have h:=bB
 refine Jb1 ?_
 cases h
 exact Jw1 _ ⟨an,(H.1,H.2),R,au.wk R,aY,Y,R⟩<|KM R
 refine JT λh=>Jx R<|Js<|Jp<|Jq<|Jv<|Je [2,2,1,2,2,1,2,2,1,2] R<|Jd3 R U79 R Z75<|Jd3 R U75 R Z31<|Jb3 R I31 (br.ld 1 R R)<|Jn 1 R<|Ob h λeq bE h=>Jc3 R aZ bE U31 Z37 ?_
 obtain⟨dC,dM,bs,dh⟩:=aZ.gSl bE
 refine Jb3 R I37 dh<|Jn 1 R<|Ob h λer bF h=>Jc3 R bs bF U37 Z2<|Jb3 R I2 (bs.gInt bF)<|Jb 1 R<|Ob h λes ay h=>Ob h λet a4 h=>Ob h λeu a5 h=>Ob h λam ak h=>Jo3 [1,2,3,4,5,6] (λE L w'=>∃κ',L=E/\Stp [4,8] an dw κ' w'/\Oc (Ep.own E6 2) 37 κ' w' 4 G F am/\((⟨p0.Arena.Owner,p0.Prio,p0.Arena.Next,c,d⟩:l7Game).prev).length=am.length) ?_ ?_
 refine WC.rxt (κ:=an) [0,4,6] (some 10) (by kernel_rfl) λdY av=>Jq1 (fuel:=5) [(0,2),(2,2),(3,2),(5,2),(8,2),(4,0),(6,2),(7,0)] (by kernel_rfl) (by kernel_rfl) R<|Jd3 R U210 R Z31<|Jn 1 R<|Jd3 R U210 R Z31<|Jn 2 R ?_
 have aJ:=bq.stp (T3 aq au av)
 refine Jg R (Jc2 I31 R R<|hvC (aJ.ld 3 R R) R)<|Jf R (Jf2 aY.rdc ay U31 Z37 R R Y R) ?_
 have aK:=aY.stp av
 obtain⟨dD,dN,dH,aL⟩:=aK.rdc.gSl ay
 refine Jg R (Jc2 I37 R R<|hvC aL R)<|Jp1<|WA.fork2 (fuel:=4) 1 9 (by kernel_rfl) R ?_ ?_
 refine Jb4 (Cl.refl _ _ _) R (Jc2 I31 R R<|hvE<|aJ.ld 3 R R)<|Jp1<|Jq1 (fuel:=3) [(9,1)] (by kernel_rfl) (by kernel_rfl) R<|Jd4 (κ:=an) 7 [u] R Y37 bS R λcq cp dZ dz aC cJ=>⟨(aC.cl R),Jp1<|WA.brk (fuel:=2) 10 (by kernel_rfl) R (by kernel_rfl) ?_⟩
 have bu:=aK.stp aC
 obtain⟨b5,bi,cK,cL⟩:=bu.borrow ay (aL _ (Stp.ag aC R)) 8 R R
 refine Jy3 (κ:=b5) (E:=E6) 8 [] R Y37 bS R cK (Sl.srcP (bY _) (cJ.stp bi).rdc) bU a4 R λbm bn d1 b7 bj cM=>Tv<|Jp1<|Jq1 (fuel:=0) [(11,2),(12,1)] (by kernel_rfl) (by kernel_rfl) R<|Jf R (Jf2 bu.rdc a5 U31 Z37 R R Y R)<|WO.stH (κ:=b7) (E:=(Ep.own E6 2)) 4 [8] R R R R R R R R Z37 R ⟨_,_,R,cM⟩ R R (cL.stp bj) ak λd2 b8 cm cN=>Tv<|?_
 have dn:((⟨p0.Arena.Owner,p0.Prio,p0.Arena.Next,c,d⟩:l7Game).prev).length=am.length:=Y.trans (Jt2 ak).2.2.2.symm
 exact Jp1<|Jr1 [] (by kernel_rfl) (by kernel_rfl) R<|Jo<|Jw1 _ ⟨b8,R,(T5 av aC bi bj cm).wk R,cN,dn⟩<|KM R
 refine Jd4 (κ:=an) 7 [u] R Y37 bS R λcq cp d3 dA B bv=>⟨(B.cl R),Jp1<|WA.forkB2r (fuel:=3) 1 10 (by kernel_rfl) R (by kernel_rfl) ?_ ?_⟩
 refine Jb4 (B.cl R) R (Jc2 I31 R R<|hvE ((aJ.stp B).ld 3 R R))<|Jp1<|WA.brk (fuel:=2) 10 (by kernel_rfl) R (by kernel_rfl) ?_
 have bw:=aK.stp B
 obtain⟨b9,bk,cO,cP⟩:=bw.borrow ay (aL _ (Stp.ag B R)) 8 R R
 refine Jy3 (κ:=b9) (E:=E6) 8 [] R Y37 bS R cO (Sl.srcP (bY _) (bv.stp bk).rdc) bU a4 R λbm bn d4 ca bl cQ=>Tv<|Jp1<|Jq1 (fuel:=0) [(11,2),(12,1)] (by kernel_rfl) (by kernel_rfl) R<|Jf R (Jf2 bw.rdc a5 U31 Z37 R R Y R)<|WO.stH (κ:=ca) (E:=(Ep.own E6 2)) 4 [8] R R R R R R R R Z37 R ⟨_,_,R,cQ⟩ R R (cP.stp bl) ak λd5 cc cn cR=>Tv<|?_
 have dp:((⟨p0.Arena.Owner,p0.Prio,p0.Arena.Next,c,d⟩:l7Game).prev).length=am.length:=Y.trans (Jt2 ak).2.2.2.symm
 exact Jp1<|Jr1 [] (by kernel_rfl) (by kernel_rfl) R<|Jo<|Jw1 _ ⟨cc,R,(T5 av B bk bl cn).wk R,cR,dp⟩<|KM R
 have bx:=aK.stp B
 obtain⟨ce,aV,cS,cT⟩:=bx.borrow ay (aL _ (Stp.ag B R)) 8 R R
 refine Jy3 (κ:=ce) (E:=E6) 8 [] R Y37 bS R cS (Sl.srcP (bY _) (bv.stp aV).rdc) bU a4 R λbm bn d7 cf aW cU=>Tv<|Jp1<|Jq1 (fuel:=0) [(1,1),(11,2),(12,1)] (by kernel_rfl) (by kernel_rfl) R<|Jb3 R I31 ((aJ.stp<|T3 B aV aW).ld 3 R R)<|Jf R (Jf2 bx.rdc a5 U31 Z37 R R Y R)<|WO.stH (κ:=cf) (E:=(Ep.own E6 2)) 4 [8] R R R R R R R R Z37 R ⟨_,_,R,cU⟩ R R (cT.stp aW) ak λd8 cg co cV=>Tv<|?_
 have dq:((⟨p0.Arena.Owner,p0.Prio,p0.Arena.Next,c,d⟩:l7Game).prev).length=am.length:=Y.trans (Jt2 ak).2.2.2.symm
 exact Jp1<|Jr1 [] (by kernel_rfl) (by kernel_rfl) R<|Jo<|Jw1 _ ⟨cg,R,(T5 av B aV aW co).wk R,cV,dq⟩<|KM R
 rintro _ dX ⟨b4,rfl,cl,cI,dm⟩
 refine Jz<|Jp<|Jf3 R ?_
 cases h
 exact Jz1 λa ha=>⟨k,_,Ja3 _,⟨b4,(((IntKind.i64.wrap<|H.1+1):Int),am),R,(au.tr cl).wk R,cI,dm,bB⟩,(ha.mm R)⟩
 rintro _ dW ⟨b3,az,rfl,bh,cF,dl,rfl⟩
 have h:=yI dd
 refine Jz<|Jp<|Jf3 R ?_
 have dt:bM .i64 (u+1)=u+1:=wr1 df (Jm2 aj) de
 rw[dt]
 have aj:=Jm2 aj
 cases h
 exact Jz1 λa ha=>⟨k,_,Ja3 _,⟨b3,u+1,(az.2,b0),R,(T3 ap aq bh).wk R,cF,dl,(cD.stp bh),dk,by omega,by omega,a2⟩,(ha.mm R)⟩
 rintro _ dU ⟨a8,al,rfl,aB,cA,di,cB,dj,rfl⟩
 have h:=yI dc
 refine Jp<|Je [1,1] R<|Jb4 tv R (Jc4 (haE (bt.stp aB).cells) I210 Z210 R)<|Jh4 (κ:=a8) 3 R Z210 R (c7.stp<|aA.tr aB) R λd9 aD cW=>Tv<|Jd<|Ju<|Ja2 (l:=[.cell 2 210]) V201 (cd R cW I210 Z210 R R) R ?_
 cases h
 have aU:=(aB.tr aD)
 exact⟨(λb=>ren [(4,5),(5,6)]<|a8 b),aI,aE,aH,aF,ar,aG,G,F,ag,ah,(by simp only[di,dj]),((db.stp<|T5 O D aA aB aD).map (ren [(4,5),(5,6)]) R R),((cz.stp aU).map (ren [(4,5),(5,6)]) R R),((cC.stp aU).map (ren [(4,5),(5,6)]) R R),((cE.stp aU).map (ren [(4,5),(5,6)]) R R),((cA.stp aD).map (ren [(4,5),(5,6)]) R R),((cB.stp aD).map (ren [(4,5),(5,6)]) R R)⟩
theorem pp {j i f k e d g n c m}{p0:l7Game}{p1:Int}{p2:Int}(C:Rd (Rp.int .i64) κ w 0 j i p0.owner) (D:Rd (Rp.int .i64) κ w 0 f k p0.prio) (E:Rd (Rp.sl (Rp.int .i64)) κ w 0 e d p0.next) (F:Rd (Rp.sl (Rp.int .i64)) κ w 0 g n p0.prev) (p:Rd (Rp.int .i64) κ w 0 c m p0.pick){r:Bool}(h:mb p0 p1 p2=some r):Ret Tryz.prog 269 [.agg #[.slice j p0.owner.length i,.slice f p0.prio.length k,.slice e p0.next.length d,.slice g p0.prev.length n,.slice c p0.pick.length m],vi p1,vi p2] w (Pvb κ w r):=by
 unfold mb at h
 refine Jk3 κ F269 R N269 R λx=>Je [1,2] R<|Js3 (κ:=κ) 2 R λB w1 t b o=>Tv<|Jb 1 R<|Je [2,1,2,2,1,2,2,2,1,2,2,1,2,2,2,2] R<|Jd3 R U210 R Z37<|Jb3 R I37 (o.ld 4 R R)<|Jn 1 R<|Ob h λA q h=>Jc3 R p q U37 Z2 ?_
 have a:=p.stp b
 refine Jb3 R I2 (a.gInt q)<|Jn 2 R<|Ob h λz h y=>Jf4 [6] 21 z t w1 [(7,2),(8,1),(9,2),(10,2),(11,1),(12,2),(13,2),(14,2)] [(15,2)] tv ?_ ?_
 revert h
 cases G:decide (A<0)
 refine JF λh=>Jd3 R U210 R Z37<|Jb3 R I37 (o.ld 4 R R)<|Jn 1 R<|Ob h λI s h=>Jc3 R a s U37 Z2<|Jb3 R I2 (a.gInt s)<|Jn 3 R ?_
 cases h
 exact Jg4 tv R
 refine JT λh=>Jn 1 R<|Jz3 R<|Jn 2 R<|Jz3 R<|Jn 3 R ?_
 cases h
 exact Jg4 tv R
 rintro _ H _ ⟨rfl,u,v⟩
 have h:=y
 refine Jb 1 R<|Ju<|Ja2 (l:=[.tmp 6]) V269 (Jp2 R R) R ?_
 cases h
 exact⟨u,R,(x.stp<|b.tr v)⟩
theorem nU {u A}{p0:(List Int)}{p1:Int}(n:Rd (Rp.int .i64) κ w 0 u A p0){r:(List Bool)}(h:gQ p0 p1=some r):Ret Tryz.prog 202 [.slice u p0.length A,vi p1] w (Pvs Ep.bool 4 κ w r):=by
 unfold gQ at h
 refine Jk3 κ F202 R N202 R λK=>Je3 R<|Jg3 [2,2,1,2] 1 R<|Jn3 R U37 R R<|Ob h λf V h=>Jl1 (κ:=κ) (E:=Ep.bool) (z:=(false:Bool)) 2 R R R R R R R Y178 fQ R R R R R (λ_ _ _=>R) (Ju2 V) λj q w1 g t J=>Tv<|Jb 1 R<|Jq<|Je3 R ?_
 have N:(p0.length:Int)<=9223372036854775807:=n.len_le
 refine Ob h λy S M=>?_
 clear h
 refine Jo3 [5] (λE L w'=>∃κ',∃e:(List Bool),L=E/\Stp [2] g w1 κ' w'/\Oc Ep.bool 4 κ' w' 2 j q e/\f.length=e.length/\y=cb e) ?_ ?_
 refine Jv<|Jp3 [0,1,5] (λk E L w'=>∃κ' b,∃d:(List Bool),L=(6,vi b)::E/\Stp [2] g w1 κ' w'/\Oc Ep.bool 4 κ' w' 2 j q d/\f.length=d.length/\0<=b/\hV ((p0.length:Int)-b)=k/\cntM (iE p0 p1) k b d=some y) ⟨_,_,⟨g,0,f,R,Jj3,J,R,(by decide),(by simp),S⟩,(KM R)⟩ ?_
 rintro k _ Y ⟨s,b,d,rfl,i,m,p,O,X,h⟩
 rcases k with _ | k
 have o:=h;obtain⟨W,h⟩:=cw (cb (eg d):(List Bool)⊕(((List Bool))⊕((List Bool))))
 have c:decide (b<(p0.length:Int))=false:=Jo2 (by omega)
 refine Jq<|Jg3 [2,2,2,2] 2 R<|Jn3 R U37 R R<|Jb 1 R<|Jw2 R c<|Jc1<|Jt<|Jt ?_
 cases h
 have h:=o
 refine Jb1 ?_
 cases h
 exact Jw1 _ ⟨s,d,R,i.wk R,m,p,R⟩<|KM R
 obtain⟨W,h,o⟩:=BI h;unfold iE at h
 have c:decide (b<(p0.length:Int))=true:=Jn2 (by omega)
 refine Jq<|Jg3 [2,2,2,2] 2 R<|Jn3 R U37 R R<|Jb 1 R<|Jv2 R c<|Js<|Jp<|Jq<|Jv<|Jh3 [2,2,2,2,2,1,2,2,2,1] 4 R<|Ob h λab v h=>Jc3 R n v U37 Z2<|Jb3 R I2 ((n.stp<|t.tr i).gInt v)<|Jn 2 R<|Ob h λac U h=>Jf R (Jf2 m.rdc U U178 Z4 R R p R)<|Ob h λB x h=>Jk1 (κ:=s) (E:=Ep.bool) 2 [] R R R R R R R R Z4 R R R R m x λZ C G I=>Tv<|?_
 have Q:f.length=B.length:=p.trans (Jt2 x).2.2.2.symm
 refine Jo<|Jz<|Jp<|Jf3 R ?_
 have T:bM .i64 (b+1)=b+1:=wr1 O (Jm2 c) N
 rw[T]
 have c:=Jm2 c
 cases h
 exact Jz1 λa ha=>⟨k,_,Ja3 _,⟨C,b+1,B,R,(i.tr G).wk R,I,Q,by omega,by omega,o⟩,(ha.mm R)⟩
 rintro _ aa ⟨D,e,rfl,F,H,P,rfl⟩
 have h:=yI M
 refine Jp<|Je3 R<|Ju<|Ja2 (l:=[.tmp 4]) V202 (Jp2 R R) R ?_
 cases h
 exact⟨D,j,q,(by simp only[P]),(K.stp<|t.tr F),H⟩
theorem gq {p0:Sig}  {r:Int}(h:eB p0=some r):Ret Tryz.prog 103 [.agg #[vi p0.In,vi p0.Out]] w (Pvi κ w r):=by
 unfold eB at h
 refine Jk3 κ F103 R N103 R λd=>Je [1,2] R<|Js3 (κ:=κ) 2 R λf w1 b c a=>Tv<|Jb 1 R<|Je [2,1,2,1,2,2,2] R<|Jd3 R U28 R Z2<|Jb3 R I2 (a.ld 0 R R)<|Jd3 R U28 R Z2<|Jb3 R I2 (a.ld 1 R R)<|Jn 1 R<|Ob h λ_z8 e h=>Jf R (uD R R R<|wT e)<|Jb 1 R<|Ju<|Ja2 (l:=[.tmp 2]) V103 (Jp2 R R) R ?_
 cases h
 exact⟨b,R,(d.stp c)⟩
theorem pS {p0:Int}  {r:Bool}(h:lu p0=some r):Ret Tryz.prog 196 [vi p0] w (Pvb κ w r):=by
 unfold lu at h
 refine Jk3 κ F196 R N196 R λf=>Je3 R<|Jg3 [2,2,2,2,2,2,2,2,2,2,2] 3 R<|Ob h λa h g=>Jf4 [0,2] 8 a κ w [(3,2),(4,2),(5,2)] [(6,2),(7,2),(8,2),(9,2),(10,2)] tv ?_ ?_
 revert h
 cases m:(p0==2)
 refine JF λh=>Jn 3 R ?_
 cases h
 exact Jg4 tv R
 refine JT λh=>Jn 3 R ?_
 cases h
 exact Jg4 tv R
 rintro _ k _ ⟨rfl,b,e⟩
 have h:=g
 refine Jn 1 R<|Ob h λj h i=>Jf4 [2] 12 j b k [(7,2),(8,2),(9,2)] [(10,2)] tv ?_ ?_
 revert h
 cases n:a
 refine JF λh=>Jn 3 R ?_
 cases h
 exact Jg4 tv R
 refine JT λh=>Jn 3 R ?_
 cases h
 exact Jg4 tv R
 rintro _ o _ ⟨rfl,c,d⟩
 have h:=i
 refine Jb 1 R<|Ju<|Ja2 (l:=[.tmp 2]) V196 (Jp2 R R) R ?_
 cases h
 exact⟨c,R,(f.stp<|e.tr d)⟩
theorem jb {i p}{p0:(List Int)}{p1:Int}(g:Rd (Rp.int .i64) κ w 0 i p p0){r:Int}(h:db p0 p1=some r):Ret Tryz.prog 49 [.slice i p0.length p,vi p1] w (Pvi κ w r):=by
 unfold db at h
 refine Jk3 κ F49 R N49 R λj=>Je3 R<|Jq<|Jg3 [2,2,2] 1 R<|Jn3 R U37 R R<|Jb 1 R ?_
 have t:(p0.length:Int)<=9223372036854775807:=g.len_le
 refine Ob h λo v m=>?_
 clear h
 refine Jx1 (λL w'=>∃κ',L=[]/\Stp [] κ w κ' w'/\o=cb ()) ?_ ?_
 refine Jv<|Jp3 [0,1,7] (λk E L w'=>∃κ' b,L=(8,vi b)::E/\Stp [] κ w κ' w'/\0<=b/\hV ((p0.length:Int)-b)=k/\cntM (dm p0 p1) k b ()=some o) ⟨_,_,⟨κ,0,R,Jj3,(by decide),(by simp),v⟩,(KM R)⟩ ?_
 rintro k _ D ⟨f,b,rfl,d,u,A,h⟩
 rcases k with _ | k
 have e:=h;obtain⟨y,h⟩:=cw (cb (eg ()):Int⊕((Unit)⊕(Unit)))
 have c:decide (b<(p0.length:Int))=false:=Jo2 (by omega)
 refine Je3 R<|Jq<|Jw2 R c<|Jc1<|Jt<|Jt ?_
 cases h
 have h:=e
 refine Jb1 ?_
 cases h
 exact Jw1 _ ⟨f,R,d.wk R,R⟩ KN
 obtain⟨y,h,e⟩:=BI h;unfold dm at h
 have c:decide (b<(p0.length:Int))=true:=Jn2 (by omega)
 refine Je3 R<|Jq<|Jv2 R c<|Js<|Jp<|Jq<|Jv<|Je3 R<|Jg3 [2,2,2,2,1,2] 3 R<|Ob h λz n h=>Jc3 R g n U37 Z2<|Jb3 R I2 ((g.stp d).gInt n)<|Jb 1 R ?_
 revert h
 cases B:(p1==z)
 refine JF λh=>Jy R<|Js<|Jz<|Jp<|Jf3 R ?_
 have x:bM .i64 (b+1)=b+1:=wr1 u (Jm2 c) t
 rw[x]
 have c:=Jm2 c
 cases h
 exact Jz1 λa ha=>⟨k,_,Ja3 _,⟨f,b+1,R,d.wk R,by omega,by omega,e⟩,(ha.mm R)⟩
 refine JT λh=>Jx R<|Je3 R<|Ju<|Ja1<|Jw<|Jw ?_
 cases h
 obtain rfl:=Option.some.inj e
 have h:=yL m
 refine Ja1<|Jq2<|Jw<|Ja2 (l:=[.tmp 4]) V49 (Jp2 R R) R ?_
 cases h
 exact⟨f,R,(j.stp d)⟩
 rintro _ C ⟨q,rfl,s,rfl⟩
 have h:=yI m
 refine Jp<|Je3 R<|Ju<|Ja2 (l:=[.tmp 4]) V49 (Jp2 R R) R ?_
 cases h
 exact⟨q,R,(j.stp s)⟩
theorem jC {n t}{p0:(List (Int×Int))}{p1:(Int×Int)}(m:Rd (Rp.pair (Rp.int .i64) (Rp.int .i64)) κ w 0 n t p0){r:Int}(h:cX p0 p1=some r):Ret Tryz.prog 170 [.slice n p0.length t,.agg #[vi p1.1,vi p1.2]] w (Pvi κ w r):=by
 unfold cX at h
 refine Jk3 κ F170 R N170 R λo=>Je [1,2] R<|Js3 (κ:=κ) 2 R λH w1 i j y=>Tv<|Jb 1 R<|Jq<|Jg3 [2,2,2] 1 R<|Jn3 R U123 R R<|Jb 1 R ?_
 have z:(p0.length:Int)<=9223372036854775807:=m.len_le
 refine Ob h λs C p=>?_
 clear h
 refine Jx1 (λL w'=>∃κ',L=[]/\Stp [] i w1 κ' w'/\s=cb ()) ?_ ?_
 refine Jv<|Jp3 [0,3,7] (λk E L w'=>∃κ' b,L=(8,vi b)::E/\Stp [] i w1 κ' w'/\0<=b/\hV ((p0.length:Int)-b)=k/\cntM (cR p0 p1) k b ()=some s) ⟨_,_,⟨i,0,R,Jj3,(by decide),(by simp),C⟩,(KM R)⟩ ?_
 rintro k _ M ⟨e,b,rfl,d,A,J,h⟩
 rcases k with _ | k
 have g:=h;obtain⟨G,h⟩:=cw (cb (eg ()):Int⊕((Unit)⊕(Unit)))
 have c:decide (b<(p0.length:Int))=false:=Jo2 (by omega)
 refine Je3 R<|Jq<|Jw2 R c<|Jc1<|Jt<|Jt ?_
 cases h
 have h:=g
 refine Jb1 ?_
 cases h
 exact Jw1 _ ⟨e,R,d.wk R,R⟩ KN
 obtain⟨G,h,g⟩:=BI h;unfold cR at h
 have c:decide (b<(p0.length:Int))=true:=Jn2 (by omega)
 refine Je3 R<|Jq<|Jv2 R c<|Js<|Jp<|Jq<|Jv<|Je3 R<|Jq<|Js1 (κ:=e) [0,2] none [(1,2),(2,2),(3,2),(0,0),(4,0),(5,2)] [] (by kernel_rfl) (by kernel_rfl) λN f=>Jn 2 R<|Ob h λu q h=>Jc3 R m q U123 Z120<|Jg R (Jc4 (haC (y.stp<|d.tr f).cells R) I120 Z120 R) ?_
 obtain⟨I,D,B⟩:=((m.stp (T3 j d f))).gSt q
 obtain⟨_,_,rfl,rfl,rfl⟩:=D
 refine Jg R (Jc4 (haC B R) I120 Z120 R)<|Jf R (xa U120 (by kernel_rfl) I2 U2 Z2 R R R)<|Jt1<|Jd ?_
 revert h
 cases K:((p1.1==u.1)&&(p1.2==u.2))
 refine JF λh=>Jy R<|Js<|Jz<|Jp<|Jf3 R ?_
 have F:bM .i64 (b+1)=b+1:=wr1 A (Jm2 c) z
 rw[F]
 have c:=Jm2 c
 cases h
 exact Jz1 λa ha=>⟨k,_,Ja3 _,⟨e,b+1,R,(d.tr f).wk R,by omega,by omega,g⟩,(ha.mm R)⟩
 refine JT λh=>Jx R<|Je3 R<|Ju<|Ja1<|Jw<|Jw ?_
 cases h
 obtain rfl:=Option.some.inj g
 have h:=yL p
 refine Ja1<|Jq2<|Jw<|Ja2 (l:=[.tmp 4]) V170 (Jp2 R R) R ?_
 cases h
 exact⟨e,R,(o.stp<|T3 j d f)⟩
 rintro _ O ⟨v,rfl,x,rfl⟩
 have h:=yI p
 refine Jp<|Je3 R<|Ju<|Ja2 (l:=[.tmp 4]) V170 (Jp2 R R) R ?_
 cases h
 exact⟨v,R,(o.stp<|j.tr x)⟩
theorem mG {b c}{p0:(List (List Int))}(j:Oc (Ep.fz (Rp.sl (Rp.int .i64))) 37 κ w 2 b c p0){r:(List (List Int))}(h:eT p0=some r):Ret Tryz.prog 221 [.slice b p0.length c,.func (.func 222) #[] #[]] w (λv w'=>∃(κ':Col),v= .tuple #[]/\Ent κ w κ' w'/\Oc (Ep.fz (Rp.sl (Rp.int .i64))) 37 κ' w' 2 b c r/\p0.length=r.length):=by
  unfold eT at h
  split at h
  · rename_i a
    cases h
    exact xn Tryz.slices_Compare (Tryz.slices_SortFunc_none (α:=Nat)) (@λα _ i h1 g k e m f d w hc a hb hs=>Tryz.slices_SortFunc (α:=α) i h1 g k 222 #[] e m f d w Tryz.call222 hc a hb hs) j a.1 (λl hl=>by have:=List.all_eq_true.1 a.2 l hl;cases l <;> simp_all)
  · cases h
end Go.Proofs.YtleekpaohfpooaaGreat
