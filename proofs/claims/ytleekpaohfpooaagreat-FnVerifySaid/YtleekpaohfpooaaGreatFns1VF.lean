/- The walks, part 1. By program. -/
import Derived.Test.YtleekpaohfpooaaGreatFnsMVF
import Derived.Test.YtleekpaohfpooaaGreatAlVF
set_option linter.unusedVariables false
set_option linter.unusedSimpArgs false
open Go.IntKind renaming wrap → bM
open Sum renaming inr → cb, inl → eg
open Int renaming toNat → hV
namespace Go.Proofs.YtleekpaohfpooaaGreat
open Go Go.Wk Go.Proofs
set_option maxRecDepth 100000
set_option maxHeartbeats 1000000
variable {w:World}{κ:Col}
theorem vS {e f}{p0:(List Int)}{p1:Int}(j:Rd (Rp.int .u8) κ w 0 e f p0){r:dice}(h:p5 p0 p1=some r):Ret Tryz.prog 9 [.slice e p0.length f,.int .u64 p1] w (λv w'=>∃(κ':Col) (C:Option Addr) (F:Nat) (D:Nat),v= .pointer (some ⟨D,0,none⟩)/\Ent κ w κ' w'/\Rd (Rp.int .u8) κ' w' 0 C F r.b/\(Bc κ' w' 3 D 65 [.slice C r.b.length F,vi r.i,.int .u64 r.h])):=by
 unfold p5 at h
 refine Jk3 κ F9 R N9 R λM=>Je3 R<|Jg3 [2,2,2,2,2,2,2,2,1,2] 4 R<|Jn3 R U22 R R<|Jf R (Jh2 U3 U26 R R)<|Jn 1 R<|Jf R (Ji4 [.slice e p0.length f,vi 0,.int .u64 (IntKind.u64.wrap ((IntKind.u64.wrap<|p1 * 7919)+(IntKind.u64.wrap (p0.length:Int))))] R)<|Js3 (κ:=κ) 2 R λq w1 m p K=>Tv<|Jb 1 R<|Jq<|Je3 R ?_
 have O:(p0.length:Int)<=9223372036854775807:=j.len_le
 refine Ob h λB Q N=>?_
 clear h
 refine Jo3 [5] (λE L w'=>∃κ' t,L=E/\Stp [2] m w1 κ' w'/\Bc κ' w' 2 q 65 [.slice e p0.length f,vi 0,.int .u64 t]/\B=cb t) ?_ ?_
 refine Jv<|Jp3 [0,5] (λk E L w'=>∃κ' c d,L=(6,vi c)::E/\Stp [2] m w1 κ' w'/\Bc κ' w' 2 q 65 [.slice e p0.length f,vi 0,.int .u64 d]/\0<=c/\hV ((p0.length:Int)-c)=k/\cntM (lR p0) k c d=some B) ⟨_,_,⟨m,0,((IntKind.u64.wrap ((IntKind.u64.wrap<|p1 * 7919)+(IntKind.u64.wrap (p0.length:Int)))):Int),R,Jj3,K,(by decide),(by simp),Q⟩,(KM R)⟩ ?_
 rintro k _ V ⟨i,c,d,rfl,n,y,P,U,h⟩
 rcases k with _ | k
 have s:=h;obtain⟨T,h⟩:=cw (cb (eg d):dice⊕((Int)⊕(Int)))
 have g:decide (c<(p0.length:Int))=false:=Jo2 (by omega)
 refine Jq<|Jg3 [2,2,2,2] 2 R<|Jn3 R U22 R R<|Jb 1 R<|Jw2 R g<|Jc1<|Jt<|Jt ?_
 cases h
 have h:=s
 refine Jb1 ?_
 cases h
 exact Jw1 _ ⟨i,d,R,n.wk R,y,R⟩<|KM R
 obtain⟨T,h,s⟩:=BI h;unfold lR at h
 have g:decide (c<(p0.length:Int))=true:=Jn2 (by omega)
 refine Jq<|Jg3 [2,2,2,2] 2 R<|Jn3 R U22 R R<|Jb 1 R<|Jv2 R g<|Js<|Jp<|Jq<|Jv<|Js1 (κ:=i) [0,2] (some 15) [(0,2),(1,2),(2,2),(3,2),(6,2),(7,2),(8,2),(4,0),(5,2),(9,0),(10,2),(11,2),(12,2),(13,2),(14,2)] [(15,1)] (by kernel_rfl) (by kernel_rfl) λW o=>Jn 2 R<|Jf R (cI R R)<|Jd3 R U65 R Z26<|Jn 2 R<|Ob h λu A h=>Jc3 R j A U22 Z5 ?_
 have z:=y.stp o
 refine Jg R (Jc2 I26 R R<|hvC (z.ld 2 R R) R)<|Jn 1 R<|Jg R (Jc2 I5 R R<|hvC ((j.stp<|T3 p n o).gInt A) R)<|Jf R (Jh2 U5 U26 R R)<|Jn 2 R<|Jf R (cI R R)<|Jd3 R U65 R Z26<|Jt1<|Ju3 (κ:=i) 2 (off:=2) (vc:=[.int .u64 (IntKind.u64.wrap ((IntKind.u64.wrap ((IntKind.u64.wrap<|d * 1099511628211)+(IntKind.u64.wrap u)))+3))]) (cs':=[.slice e p0.length f,vi 0,.int .u64 (IntKind.u64.wrap ((IntKind.u64.wrap ((IntKind.u64.wrap<|d * 1099511628211)+(IntKind.u64.wrap u)))+3))]) R Z26 R z R λX H J=>Tv<|Jo<|Jz<|Jp<|Jf3 R ?_
 have S:bM .i64 (c+1)=c+1:=wr1 P (Jm2 g) O
 rw[S]
 have g:=Jm2 g
 cases h
 exact Jz1 λa ha=>⟨k,_,Ja3 _,⟨i,c+1,((IntKind.u64.wrap ((IntKind.u64.wrap ((IntKind.u64.wrap<|d * 1099511628211)+(IntKind.u64.wrap u)))+3)):Int),R,(T3 n o H).wk R,J,by omega,by omega,s⟩,(ha.mm R)⟩
 rintro _ Y ⟨G,t,rfl,x,I,rfl⟩
 have h:=yI N
 refine Jp<|Je3 R<|Ju<|Ja2 (l:=[.tmp 4]) V9 (Jp2 R R) R ?_
 cases h
 exact⟨(λb=>ren [(2,3)]<|G b),e,f,q,R,((M.stp<|p.tr x).map (ren [(2,3)]) R R),((j.stp<|p.tr x).map (ren [(2,3)]) R R),(I.map (ren [(2,3)]) R R)⟩
theorem de {p0:Int}{p1:Int}{p2:Int}  {r:Bool}(h:en p0 p1 p2=some r):Ret Tryz.prog 59 [vi p0,vi p1,vi p2] w (Pvb κ w r):=by
 unfold en at h
 refine Jk3 κ F59 R N59 R λc=>Je3 R<|Jg3 [2,2,2,2,2,2,2,2,2] 4 R<|Ob h λe h d=>Jf4 [6] 14 e κ w [(4,2),(5,2),(6,2),(7,2)] [(8,2)] tv ?_ ?_
 revert h
 cases f:decide (p1<=p0)
 refine JF λh=>Jn 4 R ?_
 cases h
 exact Jg4 tv R
 refine JT λh=>Jn 4 R ?_
 cases h
 exact Jg4 tv R
 rintro _ g _ ⟨rfl,a,b⟩
 have h:=d
 refine Jb 1 R<|Ju<|Ja2 (l:=[.tmp 6]) V59 (Jp2 R R) R ?_
 cases h
 exact⟨a,R,(c.stp b)⟩
theorem sD {p0:Int}  {r:Bool}(h:nI p0=some r):Ret Tryz.prog 211 [vi p0] w (Pvb κ w r):=by
 unfold nI at h
 refine Jk3 κ F211 R N211 R λf=>Je3 R<|Jg3 [2,2,2,2,2,2,2,2,2,2,2] 3 R<|Ob h λa h g=>Jf4 [0,2] 8 a κ w [(3,2),(4,2),(5,2)] [(6,2),(7,2),(8,2),(9,2),(10,2)] tv ?_ ?_
 revert h
 cases m:(p0==2)
 refine JF λh=>Jn 3 R ?_
 cases h
 exact Jg4 tv R
 refine JT λh=>Jn 3 R ?_
 cases h
 exact Jg4 tv R
 rintro _ k _ ⟨rfl,b,e⟩
 have h:=g
 refine Jn 1 R<|Ob h λj h i=>Jf4 [2] 12 j b k [(7,2),(8,2),(9,2)] [(10,2)] tv ?_ ?_
 revert h
 cases n:a
 refine JF λh=>Jn 3 R ?_
 cases h
 exact Jg4 tv R
 refine JT λh=>Jn 3 R ?_
 cases h
 exact Jg4 tv R
 rintro _ o _ ⟨rfl,c,d⟩
 have h:=i
 refine Jb 1 R<|Ju<|Ja2 (l:=[.tmp 2]) V211 (Jp2 R R) R ?_
 cases h
 exact⟨c,R,(f.stp<|e.tr d)⟩
theorem sH {p0:Int}  {r:Pair}(h:l9 p0=some r):Ret Tryz.prog 187 [vi p0] w (λv w'=>∃(κ':Col) (ac:Option Addr) (ae:Nat) (ad:Option Addr) (af:Nat),v= .agg #[.slice ac r.Ask.length ae,.slice ad r.Give.length af]/\Ent κ w κ' w'/\Oc E6 2 κ' w' 2 ac ae r.Ask/\Oc E6 2 κ' w' 3 ad af r.Give):=by
 unfold l9 at h
 refine Jk3 κ F187 R N187 R λf=>Je [1] R<|Jt3 (κ:=κ) 2 R X127 R λaC w1 g d e=>Tv<|Jd<|Jq<|Je3 R<|Jv<|Jq<|Je3 R<|Ob h λab h aB=>Jo3 [2,3] (λE L w'=>∃κ',L=(4,.bool ab)::E/\Stp [] g w1 κ' w') ?_ ?_
 revert h
 cases aI:(p0==1)
 refine JF λh=>Jy R<|Jf3 R ?_
 cases h
 exact Jw1 _ ⟨g,R,Jj3⟩<|KM R
 refine JT λh=>Jx R<|Js ?_
 cases h
 exact Jw1 _ ⟨g,R,Jj3⟩<|KM R
 rintro _ aT ⟨c,rfl,a⟩
 have h:=aB
 refine Jp ?_
 revert h
 cases aD:ab
 refine JF λh=>Jy R<|Je3 R ?_
 revert h
 cases aE:(p0==2)
 refine JF λh=>Jy R<|Je3 R ?_
 revert h
 cases aF:(p0==3)
 refine JF λh=>Jy R<|Je3 R ?_
 revert h
 cases aG:(p0==4)
 refine JF λh=>Jy R<|Je3 R ?_
 revert h
 cases aH:(p0==6)
 refine JF λh=>Jy R<|Js<|Jz<|Jp<|Je [1,1,2,1] R<|Jd4 (κ:=c) 3 [2,3] R Y37 bS R λP Z aW aj H ay=>Tv<|Jd4 (κ:=aj) 4 [1,3] R Y37 bS R λK X aX x n az=>Tv<|Jf R (Ji4 [.slice P ([2,3]:List Int).length Z,.slice K ([1,3]:List Int).length X] R)<|Jh4 (κ:=x) 2 R Z127 R (e.stp<|T3 a H n) R λaY o aA=>Tv<|Jd<|Ju<|Ja2 (l:=[.cell 2 127]) V187 (cd R aA I127 Z127 R R) R ?_
 cases h
 exact⟨(λb=>ren [(3,2),(4,3)]<|x b),P,Z,K,X,R,((f.stp<|T5 d a H n o).map (ren [(3,2),(4,3)]) R R),((ay.stp<|n.tr o).map (ren [(3,2),(4,3)]) R R),((az.stp o).map (ren [(3,2),(4,3)]) R R)⟩
 refine JT λh=>Jx R<|Je [1,2,1] R<|Jd4 (κ:=c) 3 [0] R Y37 bS R λV Q aU u F aw=>Tv<|Jf R (Ji4 [.slice V ([0]:List Int).length Q,.slice none 0 0] R)<|Jh4 (κ:=u) 2 R Z127 R (e.stp<|a.tr F) R λaV G ax=>Tv<|Jd<|Ju<|Ja1<|Jw<|Ja2 (l:=[.cell 2 127]) V187 (cd R ax I127 Z127 R R) R ?_
 cases h
 exact⟨(λb=>ren [(3,2)]<|u b),V,Q,none,0,R,((f.stp<|T4 d a F G).map (ren [(3,2)]) R R),((aw.stp G).map (ren [(3,2)]) R R),Ow.nil⟩
 refine JT λh=>Jx R<|Je [1,1,2,1] R<|Jd4 (κ:=c) 3 [0,1] R Y37 bS R λM S aQ ai D ar=>Tv<|Jd4 (κ:=ai) 4 [1] R Y37 bS R λJ O aR t k au=>Tv<|Jf R (Ji4 [.slice M ([0,1]:List Int).length S,.slice J ([1]:List Int).length O] R)<|Jh4 (κ:=t) 2 R Z127 R (e.stp<|T3 a D k) R λaS m av=>Tv<|Jd<|Ju<|Ja1<|Jw<|Ja2 (l:=[.cell 2 127]) V187 (cd R av I127 Z127 R R) R ?_
 cases h
 exact⟨(λb=>ren [(3,2),(4,3)]<|t b),M,S,J,O,R,((f.stp<|T5 d a D k m).map (ren [(3,2),(4,3)]) R R),((ar.stp<|k.tr m).map (ren [(3,2),(4,3)]) R R),((au.stp m).map (ren [(3,2),(4,3)]) R R)⟩
 refine JT λh=>Jx R<|Je [1,1,2,1] R<|Jd4 (κ:=c) 3 [1] R Y37 bS R λT W aN ah C ao=>Tv<|Jd4 (κ:=ah) 4 [0] R Y37 bS R λU aa aO s i ap=>Tv<|Jf R (Ji4 [.slice T ([1]:List Int).length W,.slice U ([0]:List Int).length aa] R)<|Jh4 (κ:=s) 2 R Z127 R (e.stp<|T3 a C i) R λaP j aq=>Tv<|Jd<|Ju<|Ja1<|Jw<|Ja2 (l:=[.cell 2 127]) V187 (cd R aq I127 Z127 R R) R ?_
 cases h
 exact⟨(λb=>ren [(3,2),(4,3)]<|s b),T,W,U,aa,R,((f.stp<|T5 d a C i j).map (ren [(3,2),(4,3)]) R R),((ao.stp<|i.tr j).map (ren [(3,2),(4,3)]) R R),((ap.stp j).map (ren [(3,2),(4,3)]) R R)⟩
 refine JT λh=>Jx R<|Je [1,2,1] R<|Jd4 (κ:=c) 3 [2] R Y37 bS R λN Y aL q A am=>Tv<|Jf R (Ji4 [.slice N ([2]:List Int).length Y,.slice none 0 0] R)<|Jh4 (κ:=q) 2 R Z127 R (e.stp<|a.tr A) R λaM B an=>Tv<|Jd<|Ju<|Ja1<|Jw<|Ja2 (l:=[.cell 2 127]) V187 (cd R an I127 Z127 R R) R ?_
 cases h
 exact⟨(λb=>ren [(3,2)]<|q b),N,Y,none,0,R,((f.stp<|T4 d a A B).map (ren [(3,2)]) R R),((am.stp B).map (ren [(3,2)]) R R),Ow.nil⟩
 refine JT λh=>Jx R<|Je [1,2,1] R<|Jd4 (κ:=c) 3 [1] R Y37 bS R λI ag aJ p y ak=>Tv<|Jf R (Ji4 [.slice I ([1]:List Int).length ag,.slice none 0 0] R)<|Jh4 (κ:=p) 2 R Z127 R (e.stp<|a.tr y) R λaK z al=>Tv<|Jd<|Ju<|Ja1<|Jw<|Ja2 (l:=[.cell 2 127]) V187 (cd R al I127 Z127 R R) R ?_
 cases h
 exact⟨(λb=>ren [(3,2)]<|p b),I,ag,none,0,R,((f.stp<|T4 d a y z).map (ren [(3,2)]) R R),((ak.stp z).map (ren [(3,2)]) R R),Ow.nil⟩
theorem ng {p0:Bool}  {r:Int}(h:jt p0=some r):Ret Tryz.prog 192 [.bool p0] w (Pvi κ w r):=by
 unfold jt at h
 refine Jk3 κ F192 R N192 R λa=>Je3 R<|Jq<|Je3 R ?_
 revert h
 cases b:p0
 refine JF λh=>Jy R<|Js<|Jp<|Je3 R<|Ju<|Ja2 (l:=[.tmp 2]) V192 (Jp2 R R) R ?_
 cases h
 exact⟨κ,R,a⟩
 refine JT λh=>Jx R<|Je3 R<|Ju<|Jw<|Ja2 (l:=[.tmp 2]) V192 (Jp2 R R) R ?_
 cases h
 exact⟨κ,R,a⟩
theorem qv {K W}{p0:(List Int)}(i:Rd (Rp.int .i64) κ w 0 K W p0){r:(List Int)}(h:ka p0=some r):Ret Tryz.prog 136 [.slice K p0.length W] w (Pvs E6 2 κ w r):=by
 unfold ka at h
 refine Jk3 κ F136 R N136 R λar=>Je3 R<|Je [1,2] R<|Jx3 (κ:=κ) (E:=E6) 2 R Y37 bS R λah aG w1 v y al=>Tv<|Jb 1 R<|Jq<|Je3 R ?_
 have ax:(p0.length:Int)<=9223372036854775807:=i.len_le
 refine Ob h λU aA aw=>?_
 clear h
 refine Jx1 (λL w'=>∃κ',∃u:(List Int),∃q s,L=[(3,.slice q u.length s)]/\Stp [3] v w1 κ' w'/\Oc E6 2 κ' w' 2 q s u/\U=cb u) ?_ ?_
 refine Jv<|Jp3 [0] (λk E L w'=>∃κ' c,∃d:(List Int),∃t p,L=(3,.slice t d.length p)::(4,vi c)::E/\Stp [3] v w1 κ' w'/\Oc E6 2 κ' w' 2 t p d/\0<=c/\hV ((p0.length:Int)-c)=k/\cntM (gJ p0) k c d=some U) ⟨_,_,⟨v,0,(([]:List Int):(List Int)),ah,aG,R,Jj3,al,(by decide),(by simp),aA⟩,(KM R)⟩ ?_
 rintro k _ X ⟨j,c,d,t,p,rfl,m,g,ay,aS,h⟩
 rcases k with _ | k
 have D:=h;obtain⟨aF,h⟩:=cw (cb (eg d):(List Int)⊕(((List Int))⊕((List Int))))
 have e:decide (c<(p0.length:Int))=false:=Jo2 (by omega)
 refine Jq<|Jg3 [2,2,2,2] 2 R<|Jn3 R U37 R R<|Jb 1 R<|Jw2 R e<|Jc1<|Jt<|Jt ?_
 cases h
 have h:=D
 refine Jb1 ?_
 cases h
 exact Jw1 _ ⟨j,d,t,p,R,m.wk R,g,R⟩<|KM R
 obtain⟨aF,h,D⟩:=BI h;unfold gJ at h
 have e:decide (c<(p0.length:Int))=true:=Jn2 (by omega)
 refine Jq<|Jg3 [2,2,2,2] 2 R<|Jn3 R U37 R R<|Jb 1 R<|Jv2 R e<|Js<|Jp<|Jq<|Jv<|Jg3 [2,2,2] 1 R<|Jn3 R U37 R R<|Jb 1 R<|Jq<|Ob h λV az au=>?_
 clear h
 refine Jo3 [0,3,4] (λE L w'=>∃κ' F,L=(5,vi F)::E/\Stp [] j X κ' w'/\V=cb F) ?_ ?_
 refine Jv<|Jp3 [0,3,4] (λk E L w'=>∃κ' f,L=(5,vi f)::E/\Stp [] j X κ' w'/\cu (gK p0 c d) k f=some V) ⟨_,_,⟨j,((d.length:Int):Int),R,Jj3,az⟩,(KM R)⟩ ?_
 rintro k _ aX ⟨G,f,rfl,n,h⟩
 rcases k with _ | k
 cases h
 obtain⟨aV,h,M⟩:=BI h;unfold gK at h
 refine Jq<|Jq<|Js1 (κ:=G) [0,2] none [(0,2),(1,2),(2,2),(3,2),(4,2),(5,2),(6,2),(8,2),(9,2),(10,2),(7,0),(11,0),(12,2),(13,2)] [] (by kernel_rfl) (by kernel_rfl) λaH o=>Jn 3 R<|Ob h λT h av=>Jf4 [0,3,4,5] 29 T G aH [(3,2),(4,2),(5,2),(6,2),(8,2),(9,2),(10,2),(7,0),(11,0),(12,2),(13,2)] [] (Cl.refl _ _ _) ?_ ?_
 revert h
 cases aT:decide (0<f)
 refine JF λh=>Jn 7 R<|Ja4 R<|Ja4 R<|Jn 2 R ?_
 cases h
 exact Jv1 _ (Cl.refl _ _ _) ⟨R,_,Jj3⟩<|KM R
 refine JT λh=>Jn 3 R<|Ob h λa5 N h=>Jc3 R g.rdc N U37 Z2<|Jn 2 R<|Ob h λa6 O h=>Jc3 R i O U37 Z2<|Jg R (Jc2 I2 R R<|hvC ((g.stp<|n.tr o).rdc.gInt N) R)<|Jg R (Jc2 I2 R R<|hvC ((i.stp<|T4 y m n o).gInt O) R)<|Jn 2 R ?_
 cases h
 exact Jv1 _ (Cl.refl _ _ _) ⟨R,_,Jj3⟩<|KM R
 rintro _ aY _ ⟨rfl,H,I⟩
 have h:=av
 refine Jt1<|Jd ?_
 revert h
 cases aU:T
 refine JF λh=>Jy R<|Jc1<|Jt<|Jt ?_
 cases h
 have h:=M
 refine Jb1 ?_
 cases h
 exact Jw1 _ ⟨H,f,R,(T3 n o I).wk R,R⟩<|KM R
 refine JT λh=>Jx R<|Js<|Jp<|Jv<|Jf3 R<|Jz ?_
 cases h
 exact Jz1 λa ha=>⟨k,_,Ja3 _,⟨H,((IntKind.i64.wrap<|f-1):Int),R,(T3 n o I).wk R,M⟩,(ha.mm R)⟩
 rintro _ aW ⟨Y,F,rfl,x,rfl⟩
 have h:=yI au
 refine Jp<|Je [1,2,2,2,1,2] R<|Jx3 (κ:=Y) (E:=E6) 3 R Y37 bS R λaK aO aZ Z z am=>Tv<|Jn 2 R<|Ob h λa7 P h=>Jf R (kM (k1:= .i64) (k2:= .i64) U37 Z2 (.inl ⟨R,R⟩) (.inr ⟨_,R,R⟩) P g.rdc.1 R R R) ?_
 have C:=g.stp (x.tr z)
 refine Ob h λa8 aC h=>Jy3 (κ:=Z) (E:=E6) 3 [] R Y37 bS R am (Sl.srcP (bY _)<|C.rdc.sub P) bU aC R λaN aQ a0 aa A an=>Tv<|Jb 1 R<|Jg3 [2,2,2,2,1,1,1,2] 3 R<|Ob h λaI Q h=>Jc3 R i Q U37 Z2<|Jb3 R I2 ((i.stp<|T5 y m x z A).gInt Q)<|Jd4 (κ:=aa) 4 [aI] R Y37 bS R λaL aM a1 ab B ao=>Tv<|Ob h λa9 aD h=>Jy3 (κ:=ab) (E:=E6) 3 [] R Y37 bS R (an.stp B) (Sl.srcP (bY _) ao.rdc) bU aD R λaR aP a2 ac J ap=>Tv<|Jb 1 R<|Jh3 [2,2,2,2,1,2] 3 R<|Ob h λba S h=>Jf R (kM (k1:= .i64) (k2:= .i64) U37 Z2 (.inr ⟨_,R,R⟩) (.inl ⟨R,R⟩) S C.rdc.1 R R R)<|Ob h λaJ aE h=>Jy3 (κ:=ac) (E:=E6) 3 [] R Y37 bS R ap (Sl.srcP (bY _) ((C.stp<|T3 A B J).rdc.sub S)) bU aE R λaj ai a3 ad ag aq=>Tv<|Jc 1 R<|Jz<|Jp<|Jf3 R ?_
 have aB:bM .i64 (c+1)=c+1:=wr1 ay (Jm2 e) ax
 rw[aB]
 have e:=Jm2 e
 cases h
 exact Jz1 λa ha=>⟨k,_,Ja3 _,⟨(λb=>ren [(3,2)]<|ad b),c+1,aJ,aj,ai,R,(Jy2 ((T7 m x z A B J ag).wk R) [(3,2)] R),(aq.map (ren [(3,2)]) R R),by omega,by omega,D⟩,(ha.mm R)⟩
 rintro _ a4 ⟨ae,u,q,s,rfl,af,ak,rfl⟩
 have h:=yI aw
 refine Jp<|Je3 R<|Ju<|Ja2 (l:=[.tmp 2]) V136 (Jp2 R R) R ?_
 cases h
 exact⟨ae,q,s,R,(ar.stp<|y.tr af),ak⟩
theorem pt {p0:Int}  {r:(List Int)}(h:nk p0=some r):Ret Tryz.prog 140 [vi p0] w (Pvs E6 2 κ w r):=by
 unfold nk at h
 refine Jk3 κ F140 R N140 R λJ=>Je3 R<|Je [1,2] R<|Jx3 (κ:=κ) (E:=E6) 2 R Y37 bS R λB U w1 m A I=>Tv<|Jb 1 R<|Jq<|Je3 R<|Ob h λ_ P h=>?_
 have M:=ms P
 refine Ob h λt O K=>?_
 clear h
 refine Jx1 (λL w'=>∃κ',∃j:(List Int),∃f g,L=[(3,.slice f j.length g)]/\Stp [2] m w1 κ' w'/\Oc E6 2 κ' w' 2 f g j/\t=cb j) ?_ ?_
 refine Jv<|Jp3 [0] (λk E L w'=>∃κ' b,∃d:(List Int),∃i e,L=(3,.slice i d.length e)::(4,vi b)::E/\Stp [2] m w1 κ' w'/\Oc E6 2 κ' w' 2 i e d/\0<=b/\hV (p0-b)=k/\cntM kg k b d=some t) ⟨_,_,⟨m,0,(([]:List Int):(List Int)),B,U,R,Jj3,I,(by decide),(by simp),O⟩,(KM R)⟩ ?_
 rintro k _ Z ⟨o,b,d,i,e,rfl,p,s,N,Y,h⟩
 rcases k with _ | k
 have n:=h;obtain⟨T,h⟩:=cw (cb (eg d):(List Int)⊕(((List Int))⊕((List Int))))
 have c:decide (b<p0)=false:=Jo2 (by omega)
 refine Jq<|Je3 R<|Jw2 R c<|Jc1<|Jt<|Jt ?_
 cases h
 have h:=n
 refine Jb1 ?_
 cases h
 exact Jw1 _ ⟨o,d,i,e,R,p.wk R,s,R⟩<|KM R
 obtain⟨T,h,n⟩:=BI h;unfold kg at h
 have c:decide (b<p0)=true:=Jn2 (by omega)
 refine Jq<|Je3 R<|Jv2 R c<|Js<|Jp<|Jq<|Jv<|Jh3 [2,1,1,2] 1 R<|Jd4 (κ:=o) 3 [(-1)] R Y37 bS R λW X aa u q G=>Tv<|Ob h λV S h=>Jy3 (κ:=u) (E:=E6) 2 [] R Y37 bS R (s.stp q) (Sl.srcP (bY _) G.rdc) bU S R λD C ab v z H=>Tv<|Jc 1 R<|Jz<|Jp<|Jf3 R ?_
 have Q:bM .i64 (b+1)=b+1:=wr1 N (Jm2 c) M
 rw[Q]
 have c:=Jm2 c
 cases h
 exact Jz1 λa ha=>⟨k,_,Ja3 _,⟨v,b+1,V,D,C,R,(T3 p q z).wk R,H,by omega,by omega,n⟩,(ha.mm R)⟩
 rintro _ ac ⟨x,j,f,g,rfl,y,F,rfl⟩
 have h:=yI K
 refine Jp<|Je3 R<|Ju<|Ja2 (l:=[.tmp 2]) V140 (Jp2 R R) R ?_
 cases h
 exact⟨x,f,g,R,(J.stp<|A.tr y),F⟩
theorem sJ {i p}{p0:(List Int)}{p1:Int}(g:Rd (Rp.int .i64) κ w 0 i p p0){r:Bool}(h:pd p0 p1=some r):Ret Tryz.prog 284 [.slice i p0.length p,vi p1] w (Pvb κ w r):=by
 unfold pd at h
 refine Jk3 κ F284 R N284 R λj=>Je3 R<|Jq<|Je3 R ?_
 have t:(p0.length:Int)<=9223372036854775807:=g.len_le
 refine Ob h λo v m=>?_
 clear h
 refine Jx1 (λL w'=>∃κ',L=[]/\Stp [] κ w κ' w'/\o=cb ()) ?_ ?_
 refine Jv<|Jp3 [0,1] (λk E L w'=>∃κ' b,L=(5,vi b)::E/\Stp [] κ w κ' w'/\0<=b/\hV ((p0.length:Int)-b)=k/\cntM (mE p0 p1) k b ()=some o) ⟨_,_,⟨κ,0,R,Jj3,(by decide),(by simp),v⟩,(KM R)⟩ ?_
 rintro k _ D ⟨f,b,rfl,d,u,A,h⟩
 rcases k with _ | k
 have e:=h;obtain⟨y,h⟩:=cw (cb (eg ()):Bool⊕((Unit)⊕(Unit)))
 have c:decide (b<(p0.length:Int))=false:=Jo2 (by omega)
 refine Jq<|Jg3 [2,2,2,2] 2 R<|Jn3 R U37 R R<|Jb 1 R<|Jw2 R c<|Jc1<|Jt<|Jt ?_
 cases h
 have h:=e
 refine Jb1 ?_
 cases h
 exact Jw1 _ ⟨f,R,d.wk R,R⟩ KN
 obtain⟨y,h,e⟩:=BI h;unfold mE at h
 have c:decide (b<(p0.length:Int))=true:=Jn2 (by omega)
 refine Jq<|Jg3 [2,2,2,2] 2 R<|Jn3 R U37 R R<|Jb 1 R<|Jv2 R c<|Js<|Jp<|Jq<|Jv<|Jg3 [2,2,2,1,2,2] 2 R<|Ob h λz n h=>Jc3 R g n U37 Z2<|Jb3 R I2 ((g.stp d).gInt n)<|Jb 2 R ?_
 revert h
 cases B:(z==p1)
 refine JF λh=>Jy R<|Js<|Jz<|Jp<|Jf3 R ?_
 have x:bM .i64 (b+1)=b+1:=wr1 u (Jm2 c) t
 rw[x]
 have c:=Jm2 c
 cases h
 exact Jz1 λa ha=>⟨k,_,Ja3 _,⟨f,b+1,R,d.wk R,by omega,by omega,e⟩,(ha.mm R)⟩
 refine JT λh=>Jx R<|Je3 R<|Ju<|Ja1<|Jw<|Jw ?_
 cases h
 obtain rfl:=Option.some.inj e
 have h:=yL m
 refine Ja1<|Jq2<|Jw<|Ja2 (l:=[.tmp 4]) V284 (Jp2 R R) R ?_
 cases h
 exact⟨f,R,(j.stp d)⟩
 rintro _ C ⟨q,rfl,s,rfl⟩
 have h:=yI m
 refine Jp<|Je3 R<|Ju<|Ja2 (l:=[.tmp 4]) V284 (Jp2 R R) R ?_
 cases h
 exact⟨q,R,(j.stp s)⟩
theorem uL {p0:Int}  {r:(List Bool)}(h:oN p0=some r):Ret Tryz.prog 252 [vi p0] w (Pvs Ep.bool 4 κ w r):=by
 unfold oN at h
 refine Jk3 κ F252 R N252 R λG=>Je3 R<|Jg3 [2,1,2] 1 R<|Ob h λf S h=>Jl1 (κ:=κ) (E:=Ep.bool) (z:=(false:Bool)) 2 R R R R R R R Y178 fQ R R R R R (λ_ _ _=>R) (Ju2 S) λi o w1 g B F=>Tv<|Jb 1 R<|Jq<|Je3 R<|Ob h λ_ O h=>?_
 have I:=ms O
 refine Ob h λt N H=>?_
 clear h
 refine Jo3 [3] (λE L w'=>∃κ',∃e:(List Bool),L=E/\Stp [2] g w1 κ' w'/\Oc Ep.bool 4 κ' w' 2 i o e/\f.length=e.length/\t=cb e) ?_ ?_
 refine Jv<|Jp3 [0,3] (λk E L w'=>∃κ' b,∃d:(List Bool),L=(4,vi b)::E/\Stp [2] g w1 κ' w'/\Oc Ep.bool 4 κ' w' 2 i o d/\f.length=d.length/\0<=b/\hV (p0-b)=k/\cntM kZ k b d=some t) ⟨_,_,⟨g,0,f,R,Jj3,F,R,(by decide),(by simp),N⟩,(KM R)⟩ ?_
 rintro k _ V ⟨p,b,d,rfl,q,j,n,J,U,h⟩
 rcases k with _ | k
 have m:=h;obtain⟨T,h⟩:=cw (cb (eg d):(List Bool)⊕(((List Bool))⊕((List Bool))))
 have c:decide (b<p0)=false:=Jo2 (by omega)
 refine Jq<|Je3 R<|Jw2 R c<|Jc1<|Jt<|Jt ?_
 cases h
 have h:=m
 refine Jb1 ?_
 cases h
 exact Jw1 _ ⟨p,d,R,q.wk R,j,n,R⟩<|KM R
 obtain⟨T,h,m⟩:=BI h;unfold kZ at h
 have c:decide (b<p0)=true:=Jn2 (by omega)
 refine Jq<|Je3 R<|Jv2 R c<|Js<|Jp<|Jq<|Jv<|Jh3 [2,2,2,1] 2 R<|Ob h λY Q h=>Jf R (Jf2 j.rdc Q U178 Z4 R R n R)<|Ob h λu s h=>Jk1 (κ:=p) (E:=Ep.bool) 2 [] R R R R R R R R Z4 R R R R j s λW v A D=>Tv<|?_
 have M:f.length=u.length:=n.trans (Jt2 s).2.2.2.symm
 refine Jo<|Jz<|Jp<|Jf3 R ?_
 have P:bM .i64 (b+1)=b+1:=wr1 J (Jm2 c) I
 rw[P]
 have c:=Jm2 c
 cases h
 exact Jz1 λa ha=>⟨k,_,Ja3 _,⟨v,b+1,u,R,(q.tr A).wk R,D,M,by omega,by omega,m⟩,(ha.mm R)⟩
 rintro _ X ⟨x,e,rfl,y,C,K,rfl⟩
 have h:=yI H
 refine Jp<|Je3 R<|Ju<|Ja2 (l:=[.tmp 2]) V252 (Jp2 R R) R ?_
 cases h
 exact⟨x,i,o,(by simp only[K]),(G.stp<|B.tr y),C⟩
theorem pq {v D}{p0:(List Bool)}{a1 F}{p1:(List Bool)}(o:Rd Rp.bool κ w 0 v D p0) (x:Rd Rp.bool κ w 0 a1 F p1){r:(List Bool)}(h:me p0 p1=some r):Ret Tryz.prog 271 [.slice v p0.length D,.slice a1 p1.length F] w (Pvs Ep.bool 4 κ w r):=by
 unfold me at h
 refine Jk3 κ F271 R N271 R λQ=>Je3 R<|Jg3 [2,2,1,2] 1 R<|Jn3 R U178 R R<|Ob h λg ab h=>Jl1 (κ:=κ) (E:=Ep.bool) (z:=(false:Bool)) 2 R R R R R R R Y178 fQ R R R R R (λ_ _ _=>R) (Ju2 ab) λm s w1 i j P=>Tv<|Jb 1 R<|Jq<|Je3 R ?_
 have U:(p0.length:Int)<=9223372036854775807:=o.len_le
 refine Ob h λC Y T=>?_
 clear h
 refine Jo3 [5] (λE L w'=>∃κ',∃f:(List Bool),L=E/\Stp [2] i w1 κ' w'/\Oc Ep.bool 4 κ' w' 2 m s f/\g.length=f.length/\C=cb f) ?_ ?_
 refine Jv<|Jp3 [0,1,5] (λk E L w'=>∃κ' b,∃d:(List Bool),L=(6,vi b)::E/\Stp [2] i w1 κ' w'/\Oc Ep.bool 4 κ' w' 2 m s d/\g.length=d.length/\0<=b/\hV ((p0.length:Int)-b)=k/\cntM (ke p0 p1) k b d=some C) ⟨_,_,⟨i,0,g,R,Jj3,P,R,(by decide),(by simp),Y⟩,(KM R)⟩ ?_
 rintro k _ ae ⟨t,b,d,rfl,e,n,q,V,ag,h⟩
 rcases k with _ | k
 have p:=h;obtain⟨ac,h⟩:=cw (cb (eg d):(List Bool)⊕(((List Bool))⊕((List Bool))))
 have c:decide (b<(p0.length:Int))=false:=Jo2 (by omega)
 refine Jq<|Jg3 [2,2,2,2] 2 R<|Jn3 R U178 R R<|Jb 1 R<|Jw2 R c<|Jc1<|Jt<|Jt ?_
 cases h
 have h:=p
 refine Jb1 ?_
 cases h
 exact Jw1 _ ⟨t,d,R,e.wk R,n,q,R⟩<|KM R
 obtain⟨ac,h,p⟩:=BI h;unfold ke at h
 have c:decide (b<(p0.length:Int))=true:=Jn2 (by omega)
 refine Jq<|Jg3 [2,2,2,2] 2 R<|Jn3 R U178 R R<|Jb 1 R<|Jv2 R c<|Js<|Jp<|Jq<|Jv<|Jh3 [2,2,2,2,2,1,2,2,2,2,1,2,2,2,1] 4 R<|Ob h λaf y h=>Jc3 R o y U178 Z4<|Jb3 R I4 ((o.stp<|j.tr e).gBool y)<|Jn 1 R<|Ob h λad h S=>Jf4 [0,1,5,6,16,17] 28 ad t ae [(7,2),(8,2),(9,2),(10,1),(11,2),(12,2)] [(13,2),(14,1)] tv ?_ ?_
 revert h
 cases ah:af
 refine JF λh=>Jn 3 R<|Jz3 R<|Jn 2 R ?_
 cases h
 exact Jg4 tv R
 refine JT λh=>Jn 2 R<|Ob h λal A h=>Jc3 R x A U178 Z4<|Jb3 R I4 ((x.stp<|j.tr e).gBool A)<|Jn 2 R ?_
 cases h
 exact Jg4 tv R
 rintro _ ai _ ⟨rfl,H,u⟩
 have h:=S
 refine Ob h λam aa h=>Jf R (Jf2 n.rdc aa U178 Z4 R R q R)<|Ob h λG B h=>Jk1 (κ:=H) (E:=Ep.bool) 2 [] R R R R R R R R Z4 R R R R (n.stp u) B λaj I M O=>Tv<|?_
 have X:g.length=G.length:=q.trans (Jt2 B).2.2.2.symm
 refine Jo<|Jz<|Jp<|Jf3 R ?_
 have Z:bM .i64 (b+1)=b+1:=wr1 V (Jm2 c) U
 rw[Z]
 have c:=Jm2 c
 cases h
 exact Jz1 λa ha=>⟨k,_,Ja3 _,⟨I,b+1,G,R,(T3 e u M).wk R,O,X,by omega,by omega,p⟩,(ha.mm R)⟩
 rintro _ ak ⟨J,f,rfl,K,N,W,rfl⟩
 have h:=yI T
 refine Jp<|Je3 R<|Ju<|Ja2 (l:=[.tmp 4]) V271 (Jp2 R R) R ?_
 cases h
 exact⟨J,m,s,(by simp only[W]),(Q.stp<|j.tr K),N⟩
theorem tT {m t}{p0:(List Int)}{a1 u}{p1:(List Int)}(i:Rd (Rp.int .i64) κ w 0 m t p0) (n:Rd (Rp.int .i64) κ w 0 a1 u p1){r:Bool}(h:nq p0 p1=some r):Ret Tryz.prog 144 [.slice m p0.length t,.slice a1 p1.length u] w (Pvb κ w r):=by
 unfold nq at h
 refine Jk3 κ F144 R N144 R λj=>Je3 R<|Jq<|Jg3 [2,2,2,2,2] 1 R<|Jn3 R U37 R R<|Jn 1 R<|Jn3 R U37 R R<|Jb 1 R ?_
 revert h
 cases H:((p0.length:Int) !=(p1.length:Int))
 refine JF λh=>Jy R<|Js<|Jp<|Jq<|Je3 R ?_
 have y:(p0.length:Int)<=9223372036854775807:=i.len_le
 refine Ob h λs A o=>?_
 clear h
 refine Jx1 (λL w'=>∃κ',L=[]/\Stp [] κ w κ' w'/\s=cb ()) ?_ ?_
 refine Jv<|Jp3 [0,1] (λk E L w'=>∃κ' b,L=(5,vi b)::E/\Stp [] κ w κ' w'/\0<=b/\hV ((p0.length:Int)-b)=k/\cntM (ki p0 p1) k b ()=some s) ⟨_,_,⟨κ,0,R,Jj3,(by decide),(by simp),A⟩,(KM R)⟩ ?_
 rintro k _ M ⟨e,b,rfl,d,z,G,h⟩
 rcases k with _ | k
 have g:=h;obtain⟨C,h⟩:=cw (cb (eg ()):Bool⊕((Unit)⊕(Unit)))
 have c:decide (b<(p0.length:Int))=false:=Jo2 (by omega)
 refine Jq<|Jg3 [2,2,2,2] 2 R<|Jn3 R U37 R R<|Jb 1 R<|Jw2 R c<|Jc1<|Jt<|Jt ?_
 cases h
 have h:=g
 refine Jb1 ?_
 cases h
 exact Jw1 _ ⟨e,R,d.wk R,R⟩ KN
 obtain⟨C,h,g⟩:=BI h;unfold ki at h
 have c:decide (b<(p0.length:Int))=true:=Jn2 (by omega)
 refine Jq<|Jg3 [2,2,2,2] 2 R<|Jn3 R U37 R R<|Jb 1 R<|Jv2 R c<|Js<|Jp<|Jq<|Jv<|Jq<|Js1 (κ:=e) [0] none [(0,2),(1,2),(2,2),(4,2),(5,2),(6,2),(3,0),(7,0),(8,2)] [] (by kernel_rfl) (by kernel_rfl) λJ f=>Jn 2 R<|Ob h λD p h=>Jc3 R i p U37 Z2<|Jn 2 R<|Ob h λF q h=>Jc3 R n q U37 Z2<|Jg R (Jc2 I2 R R<|hvC ((i.stp<|d.tr f).gInt p) R)<|Jg R (Jc2 I2 R R<|hvC ((n.stp<|d.tr f).gInt q) R)<|Jn 1 R<|Jt1<|Jd ?_
 revert h
 cases I:(D !=F)
 refine JF λh=>Jy R<|Js<|Jz<|Jp<|Jf3 R ?_
 have B:bM .i64 (b+1)=b+1:=wr1 z (Jm2 c) y
 rw[B]
 have c:=Jm2 c
 cases h
 exact Jz1 λa ha=>⟨k,_,Ja3 _,⟨e,b+1,R,(d.tr f).wk R,by omega,by omega,g⟩,(ha.mm R)⟩
 refine JT λh=>Jx R<|Je3 R<|Ju<|Ja1<|Jw<|Jw ?_
 cases h
 obtain rfl:=Option.some.inj g
 have h:=yL o
 refine Ja1<|Jq2<|Jw<|Ja2 (l:=[.tmp 4]) V144 (Jp2 R R) R ?_
 cases h
 exact⟨e,R,(j.stp<|d.tr f)⟩
 rintro _ K ⟨v,rfl,x,rfl⟩
 have h:=yI o
 refine Jp<|Je3 R<|Ju<|Ja2 (l:=[.tmp 4]) V144 (Jp2 R R) R ?_
 cases h
 exact⟨v,R,(j.stp x)⟩
 refine JT λh=>Jx R<|Je3 R<|Ju<|Jw<|Ja2 (l:=[.tmp 4]) V144 (Jp2 R R) R ?_
 cases h
 exact⟨κ,R,j⟩
theorem uK {n p j q m o}{p0:Parity}{a1 G}{p1:(List Place)}{p2:Int}{p3:Int}(ab:Rd (Rp.int .i64) κ w 0 n p p0.Arena.Owner) (u:Rd (Rp.sl (Rp.int .i64)) κ w 0 j q p0.Arena.Next) (ac:Rd (Rp.int .i64) κ w 0 m o p0.Prio) (v:Rd Place.rp κ w 0 a1 G p1){r:Int}(h:oK p0 p1 p2 p3=some r):Ret Tryz.prog 141 [.agg #[.slice n p0.Arena.Owner.length p,.slice j p0.Arena.Next.length q,.slice m p0.Prio.length o],.slice a1 p1.length G,vi p2,vi p3] w (Pvi κ w r):=by
 unfold oK at h
 refine Jk3 κ F141 R N141 R λx=>Je [1,2] R<|Js3 (κ:=κ) 2 R λX w1 f d J=>Tv<|Jb 1 R<|Jq<|Je3 R<|Ob h λD O y=>?_
 clear h
 refine Jx1 (λL w'=>∃κ' F,L=[]/\Stp [] f w1 κ' w'/\D=cb F) ?_ ?_
 refine Jv<|Jp3 [1,2,3,4] (λk E L w'=>∃κ' c,L=(9,vi c)::E/\Stp [] f w1 κ' w'/\cu (kY p0 p1 p2 p3) k c=some D) ⟨_,_,⟨f,(0:Int),R,Jj3,O⟩,(KM R)⟩ ?_
 rintro k _ aj ⟨e,c,rfl,b,h⟩
 rcases k with _ | k
 cases h
 obtain⟨af,h,i⟩:=BI h;unfold kY at h
 refine Jq<|Jg3 [2,2,2,1,2,2,1,2,2] 1 R<|Jd3 R U79 R Z75<|Jd3 R U75 R Z31 ?_
 have s:=J.stp b
 refine Jb3 R I31 (s.ld 1 R R)<|Jn 1 R<|Ob h λS z h=>Jc3 R u z U31 Z37 ?_
 have g:=u.stp (d.tr b)
 obtain⟨V,ah,Z,K⟩:=g.gSl z
 refine Jb3 R I37 K<|Jn3 R U37 R R<|Jb 1 R ?_
 revert h
 cases ad:decide (c<(S.length:Int))
 refine JF λh=>Jy R<|Jc1<|Jt<|Jt ?_
 cases h
 have h:=i
 refine Jb1 ?_
 cases h
 exact Jw1 _ ⟨e,c,R,b.wk R,R⟩ KN
 refine JT λh=>Jx R<|Js<|Jp<|Jq<|Jv<|Je [2,2,1,2,2,1,2,2,1,2] R<|Jd3 R U79 R Z75<|Jd3 R U75 R Z31<|Jb3 R I31 (s.ld 1 R R)<|Jn 1 R<|Ob h λal A h=>Jc3 R g A U31 Z37 ?_
 obtain⟨W,ai,t,M⟩:=g.gSl A
 refine Jb3 R I37 M<|Jn 1 R<|Ob h λam B h=>Jc3 R t B U37 Z2<|Jb3 R I2 (t.gInt B)<|Jb 1 R<|Jg3 [2,2,2,2,1,2,2] 2 R<|Ob h λT C h=>Jc3 R v C U80 Z88<|Jd3 R U88 R Z2 ?_
 obtain⟨Y,P,N⟩:=((v.stp (d.tr b))).gSt C
 obtain⟨U,ag,rfl,aa⟩:=Place.un P
 refine Jb3 R I2 (λw' Q=>N w' Q 0 _ R)<|Jb 2 R ?_
 revert h
 cases ae:(T.At==p3)
 refine JF λh=>Jy R<|Js<|Jz<|Jp<|Jf3 R ?_
 cases h
 exact Jz1 λa ha=>⟨k,_,Ja3 _,⟨e,((IntKind.i64.wrap<|c+1):Int),R,b.wk R,i⟩,(ha.mm R)⟩
 refine JT λh=>Jx R<|Je3 R<|Ju<|Ja1<|Jw<|Jw ?_
 cases h
 obtain rfl:=Option.some.inj i
 have h:=yL y
 refine Ja1<|Jq2<|Jw<|Ja2 (l:=[.tmp 8]) V141 (Jp2 R R) R ?_
 cases h
 exact⟨e,R,(x.stp<|d.tr b)⟩
 rintro _ ak ⟨H,F,rfl,I,rfl⟩
 have h:=yI y
 refine Jp<|Je3 R<|Ju<|Ja2 (l:=[.tmp 8]) V141 (Jp2 R R) R ?_
 cases h
 exact⟨H,R,(x.stp<|d.tr I)⟩
theorem kq {i p}{p0:(List Int)}{p1:Int}(g:Rd (Rp.int .i64) κ w 0 i p p0){r:Int}(h:ia p0 p1=some r):Ret Tryz.prog 56 [.slice i p0.length p,vi p1] w (Pvi κ w r):=by
 unfold ia at h
 refine Jk3 κ F56 R N56 R λj=>Je3 R<|Jq<|Je3 R ?_
 have t:(p0.length:Int)<=9223372036854775807:=g.len_le
 refine Ob h λo v m=>?_
 clear h
 refine Jx1 (λL w'=>∃κ',L=[]/\Stp [] κ w κ' w'/\o=cb ()) ?_ ?_
 refine Jv<|Jp3 [0,1] (λk E L w'=>∃κ' b,L=(5,vi b)::E/\Stp [] κ w κ' w'/\0<=b/\hV ((p0.length:Int)-b)=k/\cntM (ju p0 p1) k b ()=some o) ⟨_,_,⟨κ,0,R,Jj3,(by decide),(by simp),v⟩,(KM R)⟩ ?_
 rintro k _ D ⟨f,b,rfl,d,u,A,h⟩
 rcases k with _ | k
 have e:=h;obtain⟨y,h⟩:=cw (cb (eg ()):Int⊕((Unit)⊕(Unit)))
 have c:decide (b<(p0.length:Int))=false:=Jo2 (by omega)
 refine Jq<|Jg3 [2,2,2,2] 2 R<|Jn3 R U37 R R<|Jb 1 R<|Jw2 R c<|Jc1<|Jt<|Jt ?_
 cases h
 have h:=e
 refine Jb1 ?_
 cases h
 exact Jw1 _ ⟨f,R,d.wk R,R⟩ KN
 obtain⟨y,h,e⟩:=BI h;unfold ju at h
 have c:decide (b<(p0.length:Int))=true:=Jn2 (by omega)
 refine Jq<|Jg3 [2,2,2,2] 2 R<|Jn3 R U37 R R<|Jb 1 R<|Jv2 R c<|Js<|Jp<|Jq<|Jv<|Jg3 [2,2,2,1,2,2] 2 R<|Ob h λz n h=>Jc3 R g n U37 Z2<|Jb3 R I2 ((g.stp d).gInt n)<|Jb 2 R ?_
 revert h
 cases B:(z==p1)
 refine JF λh=>Jy R<|Js<|Jz<|Jp<|Jf3 R ?_
 have x:bM .i64 (b+1)=b+1:=wr1 u (Jm2 c) t
 rw[x]
 have c:=Jm2 c
 cases h
 exact Jz1 λa ha=>⟨k,_,Ja3 _,⟨f,b+1,R,d.wk R,by omega,by omega,e⟩,(ha.mm R)⟩
 refine JT λh=>Jx R<|Je3 R<|Ju<|Ja1<|Jw<|Jw ?_
 cases h
 obtain rfl:=Option.some.inj e
 have h:=yL m
 refine Ja1<|Jq2<|Jw<|Ja2 (l:=[.tmp 4]) V56 (Jp2 R R) R ?_
 cases h
 exact⟨f,R,(j.stp d)⟩
 rintro _ C ⟨q,rfl,s,rfl⟩
 have h:=yI m
 refine Jp<|Je3 R<|Ju<|Ja2 (l:=[.tmp 4]) V56 (Jp2 R R) R ?_
 cases h
 exact⟨q,R,(j.stp s)⟩
theorem mn {p0:Sig}  {r:Bool}(h:lw p0=some r):Ret Tryz.prog 82 [.agg #[vi p0.In,vi p0.Out]] w (Pvb κ w r):=by
 unfold lw at h
 refine Jk3 κ F82 R N82 R λn=>Je [1,2] R<|Js3 (κ:=κ) 2 R λv w1 g m a=>Tv<|Jb 1 R<|Je [2,1,2,2,2,1,2,2,2,2,1,2,2,2,2,1,2,2,2] R<|Jd3 R U28 R Z2<|Jb3 R I2 (a.ld 0 R R)<|Jn 2 R<|Ob h λd h q=>Jf4 [1,2] 10 d g w1 [(4,2),(5,1),(6,2),(7,2)] [(8,2),(9,2),(10,1),(11,2),(12,2),(13,2),(14,2),(15,1),(16,2),(17,2),(18,2)] tv ?_ ?_
 revert h
 cases z:decide (1<=p0.In)
 refine JF λh=>Jn 1 R<|Jz3 R<|Jn 2 R ?_
 cases h
 exact Jg4 tv R
 refine JT λh=>Jd3 R U28 R Z2<|Jb3 R I2 (a.ld 0 R R)<|Jn 2 R ?_
 cases h
 exact Jg4 tv R
 rintro _ u _ ⟨rfl,j,b⟩
 have h:=q
 refine Jn 1 R<|Ob h λe h o=>Jf4 [1,2] 15 e j u [(9,2),(10,1),(11,2),(12,2)] [(13,2),(14,2),(15,1),(16,2),(17,2),(18,2)] tv ?_ ?_
 revert h
 cases x:d
 refine JF λh=>Jn 1 R<|Jz3 R<|Jn 2 R ?_
 cases h
 exact Jg4 tv R
 refine JT λh=>Jd3 R U28 R Z2<|Jb3 R I2 ((a.stp b).ld 1 R R)<|Jn 2 R ?_
 cases h
 exact Jg4 tv R
 rintro _ t _ ⟨rfl,f,c⟩
 have h:=o
 refine Jn 1 R<|Ob h λs h p=>Jf4 [2] 20 s f t [(14,2),(15,1),(16,2),(17,2)] [(18,2)] tv ?_ ?_
 revert h
 cases y:e
 refine JF λh=>Jn 1 R<|Jz3 R<|Jn 2 R ?_
 cases h
 exact Jg4 tv R
 refine JT λh=>Jd3 R U28 R Z2<|Jb3 R I2 ((a.stp<|b.tr c).ld 1 R R)<|Jn 2 R ?_
 cases h
 exact Jg4 tv R
 rintro _ A _ ⟨rfl,i,k⟩
 have h:=p
 refine Jb 1 R<|Ju<|Ja2 (l:=[.tmp 2]) V82 (Jp2 R R) R ?_
 cases h
 exact⟨i,R,(n.stp<|T4 m b c k)⟩
theorem jS {p0:Sig}  {r:Int}(h:gk p0=some r):Ret Tryz.prog 46 [.agg #[vi p0.In,vi p0.Out]] w (Pvi κ w r):=by
 unfold gk at h
 refine Jk3 κ F46 R N46 R λd=>Je [1,2] R<|Js3 (κ:=κ) 2 R λf w1 a b c=>Tv<|Jb 1 R<|Je [2,1,2,2] R<|Jd3 R U28 R Z2<|Jb3 R I2 (c.ld 0 R R)<|Ob h λ_z5 e h=>Jf R (uD R R R<|wT e)<|Jb 1 R<|Ju<|Ja2 (l:=[.tmp 2]) V46 (Jp2 R R) R ?_
 cases h
 exact⟨a,R,(d.stp b)⟩
theorem ov {p0:Int}{c0:Int}{a}(d:Bc κ w 0 a 2 [vi c0]){r:Bool}(h:eW p0 c0=some r):Ret Tryz.prog 217 [vi p0,.pointer (some ⟨a,0,none⟩)] w (Pvb κ w r):=by
 unfold eW at h
 refine Jk3 κ F217 R N217 R λe=>Je3 R<|Jg3 [2,2,2,2,1,2,2,2] 3 R<|Ob h λg h f=>Jf4 [1,3] 10 g κ w [(3,2),(4,1),(5,2),(6,2)] [(7,2)] tv ?_ ?_
 revert h
 cases i:decide (p0<0)
 refine JF λh=>Jn 1 R<|Jb3 R I2 (d.ld 0 R R)<|Jn 2 R ?_
 cases h
 exact Jg4 tv R
 refine JT λh=>Jn 1 R<|Jz3 R<|Jn 2 R ?_
 cases h
 exact Jg4 tv R
 rintro _ j _ ⟨rfl,b,c⟩
 have h:=f
 refine Jb 1 R<|Ju<|Ja2 (l:=[.tmp 3]) V217 (Jp2 R R) R ?_
 cases h
 exact⟨b,R,(e.stp c)⟩
theorem pU {p z}{p0:(List Int)}{p1:Int}(i:Rd (Rp.int .i64) κ w 0 p z p0){r:Bool}(h:nu p0 p1=some r):Ret Tryz.prog 195 [.slice p p0.length z,vi p1] w (Pvb κ w r):=by
 unfold nu at h
 refine Jk3 κ F195 R N195 R λq=>Je3 R<|Jq<|Jg3 [2,2,2] 1 R<|Jn3 R U37 R R<|Jb 1 R ?_
 have I:(p0.length:Int)<=9223372036854775807:=i.len_le
 refine Ob h λy K s=>?_
 clear h
 refine Jx1 (λL w'=>∃κ',L=[]/\Stp [] κ w κ' w'/\y=cb ()) ?_ ?_
 refine Jv<|Jp3 [0,1,7,8] (λk E L w'=>∃κ' b,L=(9,vi b)::E/\Stp [] κ w κ' w'/\0<=b/\hV ((p0.length:Int)-b)=k/\cntM (kG p0 p1) k b ()=some y) ⟨_,_,⟨κ,0,R,Jj3,(by decide),(by simp),K⟩,(KM R)⟩ ?_
 rintro k _ P ⟨n,b,rfl,d,J,T,h⟩
 rcases k with _ | k
 have e:=h;obtain⟨N,h⟩:=cw (cb (eg ()):Bool⊕((Unit)⊕(Unit)))
 have c:decide (b<(p0.length:Int))=false:=Jo2 (by omega)
 refine Je3 R<|Jq<|Jw2 R c<|Jc1<|Jt<|Jt ?_
 cases h
 have h:=e
 refine Jb1 ?_
 cases h
 exact Jw1 _ ⟨n,R,d.wk R,R⟩ KN
 obtain⟨N,h,e⟩:=BI h;unfold kG at h
 have c:decide (b<(p0.length:Int))=true:=Jn2 (by omega)
 refine Je3 R<|Jq<|Jv2 R c<|Js<|Jp<|Jq<|Jv<|Jg3 [2,2,1,2,2] 1 R<|Ob h λQ t h=>Jc3 R i t U37 Z2 ?_
 have g:=i.stp d
 refine Jb3 R I2 (g.gInt t)<|Jb 2 R<|Jg3 [2,2,2,2,2,2,2,2,2,2,2,2,2,2,2,2,1,2,2,2] 3 R<|Ob h λv h F=>Jf4 [0,1,5,6,7,8,9] 20 v n P [(3,2),(4,2),(5,2),(6,2)] [(7,2),(8,2),(9,2),(10,2),(11,2),(12,2),(13,2),(14,2),(15,2),(16,1),(17,2),(18,2),(19,2)] tv ?_ ?_
 revert h
 cases U:decide (Q<0)
 refine JF λh=>Jn 4 R ?_
 cases h
 exact Jg4 tv R
 refine JT λh=>Jn 4 R ?_
 cases h
 exact Jg4 tv R
 rintro _ A _ ⟨rfl,j,f⟩
 have h:=F
 refine Jn 1 R<|Ob h λx h G=>Jf4 [0,1,7,8,9] 33 x j A [(8,2),(9,2),(10,2),(11,2),(12,2),(13,2),(14,2),(15,2),(16,1),(17,2),(18,2),(19,2)] [] tv ?_ ?_
 revert h
 cases V:v
 refine JF λh=>Jn 3 R<|Ob h λO h H=>Jf4 [0,1,7,8,9,21,22,23,24] 32 O j A [(11,2),(12,2),(13,2),(14,2),(15,2),(16,1),(17,2),(18,2)] [(19,2)] tv ?_ ?_
 revert h
 cases W:decide (0<b)
 refine JF λh=>Jn 5 R<|Jz3 R<|Jn 2 R ?_
 cases h
 exact Jg4 tv R
 refine JT λh=>Jn 4 R<|Ob h λab u h=>Jc3 R g u U37 Z2<|Jb3 R I2 ((g.stp f).gInt u)<|Jn 2 R ?_
 cases h
 exact Jg4 tv R
 rintro _ Y _ ⟨rfl,S,C⟩
 have h:=H
 refine Jn 1 R ?_
 cases h
 exact Jv1 _ tv ⟨R,_,C.wk R⟩<|KM R
 refine JT λh=>Jn 8 R<|Jz3 R<|Jn 3 R ?_
 cases h
 exact Jg4 tv R
 rintro _ Z _ ⟨rfl,m,o⟩
 have h:=G
 refine Jd ?_
 revert h
 cases X:x
 refine JF λh=>Jy R<|Js<|Jz<|Jp<|Jf3 R ?_
 have M:bM .i64 (b+1)=b+1:=wr1 J (Jm2 c) I
 rw[M]
 have c:=Jm2 c
 cases h
 exact Jz1 λa ha=>⟨k,_,Ja3 _,⟨m,b+1,R,(T3 d f o).wk R,by omega,by omega,e⟩,(ha.mm R)⟩
 refine JT λh=>Jx R<|Je3 R<|Ju<|Ja1<|Jw<|Jw ?_
 cases h
 obtain rfl:=Option.some.inj e
 have h:=yL s
 refine Ja1<|Jq2<|Jw<|Ja2 (l:=[.tmp 4]) V195 (Jp2 R R) R ?_
 cases h
 exact⟨m,R,(q.stp<|T3 d f o)⟩
 rintro _ aa ⟨B,rfl,D,rfl⟩
 have h:=yI s
 refine Jp<|Je3 R<|Ju<|Ja2 (l:=[.tmp 4]) V195 (Jp2 R R) R ?_
 cases h
 exact⟨B,R,(q.stp D)⟩
theorem oV {p0:Int}{p1:Int}{p2:Bool}{p3:Bool}  {r:Int}(h:iq p0 p1 p2 p3=some r):Ret Tryz.prog 171 [vi p0,vi p1,.bool p2,.bool p3] w (Pvi κ w r):=by
 unfold iq at h
 refine Jk3 κ F171 R N171 R λd=>Je3 R<|Je3 R<|Jq<|Je3 R<|Ob h λt h n=>Jo3 [0,1,3,10] (λE L w'=>∃κ',L=(9,vi t)::E/\Stp [] κ w κ' w') ?_ ?_
 revert h
 cases J:p2
 refine JF λh=>Jy R<|Js ?_
 cases h
 exact Jw1 _ ⟨κ,R,Jj3⟩<|KM R
 refine JT λh=>Jx R<|Jf3 R ?_
 cases h
 exact Jw1 _ ⟨κ,R,Jj3⟩<|KM R
 rintro _ u ⟨e,rfl,b⟩
 have h:=n
 refine Jp<|Jq<|Je3 R<|Ob h λf h q=>Jo3 [0,1,9] (λE L w'=>∃κ',L=(3,.bool f.1)::(10,vi f.2)::E/\Stp [] e u κ' w') ?_ ?_
 revert h
 cases x:p3
 refine JF λh=>Jy R<|Js ?_
 cases h
 exact Jw1 _ ⟨e,R,Jj3⟩<|KM R
 refine JT λh=>Jx R<|Jf3 R ?_
 cases h
 exact Jw1 _ ⟨e,R,Jj3⟩<|KM R
 rintro _ k ⟨a,rfl,c⟩
 have h:=q
 refine Jp<|Jq<|Je3 R<|Jv<|Je3 R ?_
 revert h
 cases y:(p0==1)
 refine JF λh=>Jy R<|Je3 R ?_
 revert h
 cases z:(p0==2)
 refine JF λh=>Jy R<|Je3 R ?_
 revert h
 cases D:(p0==3)
 refine JF λh=>Jy R<|Je3 R ?_
 revert h
 cases G:(p0==4)
 refine JF λh=>Jy R<|Je3 R ?_
 revert h
 cases H:(p0==5)
 refine JF λh=>Jy R<|Je3 R ?_
 revert h
 cases I:(p0==6)
 refine JF λh=>Jy R<|Js<|Jz<|Jp<|Je3 R<|Ju<|Ja2 (l:=[.tmp 8]) V171 (Jp2 R R) R ?_
 cases h
 exact⟨a,R,(d.stp<|b.tr c)⟩
 refine JT λh=>Jx R<|Jg3 [2,2,2,2] 2 R<|Jf R (uC R R R)<|Jb 1 R<|Ju<|Ja1<|Jw<|Ja2 (l:=[.tmp 8]) V171 (Jp2 R R) R ?_
 cases h
 exact⟨a,R,(d.stp<|b.tr c)⟩
 refine JT λh=>Jx R<|Je3 R<|Ju<|Ja1<|Jw<|Ja2 (l:=[.tmp 8]) V171 (Jp2 R R) R ?_
 cases h
 exact⟨a,R,(d.stp<|b.tr c)⟩
 refine JT λh=>Jx R<|Je3 R<|Ju<|Ja1<|Jw<|Ja2 (l:=[.tmp 8]) V171 (Jp2 R R) R ?_
 cases h
 exact⟨a,R,(d.stp<|b.tr c)⟩
 refine JT λh=>Jx R<|Jq<|Je3 R ?_
 revert h
 cases F:f.1
 refine JF λh=>Jy R<|Js<|Jp<|Jg3 [2,2,2,2] 2 R<|Jf R (uC R R R)<|Jb 1 R<|Ju<|Ja1<|Jw<|Ja2 (l:=[.tmp 8]) V171 (Jp2 R R) R ?_
 cases h
 exact⟨a,R,(d.stp<|b.tr c)⟩
 refine JT λh=>Jx R<|Je3 R<|Ju<|Jw<|Ja1<|Jw<|Ja2 (l:=[.tmp 8]) V171 (Jp2 R R) R ?_
 cases h
 exact⟨a,R,(d.stp<|b.tr c)⟩
 refine JT λh=>Jx R<|Jq<|Jg3 [2,2,2,2,2,2,2,2,2,2] 3 R<|Ob h λj h o=>Jf4 [9] 31 j a k [(3,2),(4,2),(5,2),(6,2),(7,2),(8,2),(9,2)] [] tv ?_ ?_
 revert h
 cases A:(p1==2)
 refine JF λh=>Jn 3 R<|Ob h λs h p=>Jf4 [9,24] 30 s a k [(6,2),(7,2),(8,2)] [(9,2)] tv ?_ ?_
 revert h
 cases B:(p1==1)
 refine JF λh=>Jn 3 R ?_
 cases h
 exact Jg4 tv R
 refine JT λh=>Jn 3 R ?_
 cases h
 exact Jg4 tv R
 rintro _ K _ ⟨rfl,v,m⟩
 have h:=p
 refine Jn 1 R ?_
 cases h
 exact Jv1 _ tv ⟨R,_,m.wk R⟩<|KM R
 refine JT λh=>Jn 7 R ?_
 cases h
 exact Jg4 tv R
 rintro _ M _ ⟨rfl,g,i⟩
 have h:=o
 refine Jd ?_
 revert h
 cases C:j
 refine JF λh=>Jy R<|Js<|Jp<|Je3 R<|Ju<|Ja1<|Jw<|Ja2 (l:=[.tmp 8]) V171 (Jp2 R R) R ?_
 cases h
 exact⟨g,R,(d.stp<|T3 b c i)⟩
 refine JT λh=>Jx R<|Je3 R<|Ju<|Jw<|Ja1<|Jw<|Ja2 (l:=[.tmp 8]) V171 (Jp2 R R) R ?_
 cases h
 exact⟨g,R,(d.stp<|T3 b c i)⟩
 refine JT λh=>Jx R<|Jg3 [2,2,2,2,2] 3 R<|Jf R (uC R R R)<|Jb 1 R<|Ju<|Ja1<|Jw<|Ja2 (l:=[.tmp 8]) V171 (Jp2 R R) R ?_
 cases h
 exact⟨a,R,(d.stp<|b.tr c)⟩
theorem pV {p0:Int}{a1 k}{c0:(List Int)}{b}(q:Oc E6 2 κ w 2 a1 k c0) (g:Bc κ w 3 b 37 [.slice a1 c0.length k]){r:(List Int)}(h:lz p0 c0=some r):Ret Tryz.prog 219 [vi p0,.pointer (some ⟨b,0,none⟩)] w (λv w'=>∃(κ':Col) (i:Option Addr) (j:Nat),v= .tuple #[]/\Ent κ w κ' w'/\Oc E6 2 κ' w' 2 i j r/\Bc κ' w' 3 b 37 [.slice i r.length j]):=by
 unfold lz at h
 refine Jk3 κ F219 R N219 R λs=>Ja [1,2,1,1,1] R<|Jb3 R I37 (g.ld 0 R R)<|Jn 1 R<|Jd4 (κ:=κ) 4 [p0] R Y37 bS R λx y w1 m a o=>Tv<|Ob h λu t h=>Jy3 (κ:=m) (E:=E6) 2 [] R Y37 bS R (q.stp a) (Sl.srcP (bY _) o.rdc) bU t R λf l A c e p=>Tv<|Jv3 (κ:=c) 3 (vc:=[.slice f u.length l]) R Z37 R (g.stp<|a.tr e) R λz d n=>Tv<|Jo<|DN.end0 V219 ?_
 cases h
 exact⟨c,f,l,R,(s.stp<|T3 a e d),(p.stp d),n⟩
theorem pW {p0:Int}{a1 k}{c0:(List Int)}{b}(q:Oc E6 2 κ w 2 a1 k c0) (g:Bc κ w 3 b 37 [.slice a1 c0.length k]){r:(List Int)}(h:mT p0 c0=some r):Ret Tryz.prog 220 [vi p0,.pointer (some ⟨b,0,none⟩)] w (λv w'=>∃(κ':Col) (i:Option Addr) (j:Nat),v= .tuple #[]/\Ent κ w κ' w'/\Oc E6 2 κ' w' 2 i j r/\Bc κ' w' 3 b 37 [.slice i r.length j]):=by
 unfold mT at h
 refine Jk3 κ F220 R N220 R λs=>Ja [1,2,1,1,1] R<|Jb3 R I37 (g.ld 0 R R)<|Jn 1 R<|Jd4 (κ:=κ) 4 [p0] R Y37 bS R λx y w1 m a o=>Tv<|Ob h λu t h=>Jy3 (κ:=m) (E:=E6) 2 [] R Y37 bS R (q.stp a) (Sl.srcP (bY _) o.rdc) bU t R λf l A c e p=>Tv<|Jv3 (κ:=c) 3 (vc:=[.slice f u.length l]) R Z37 R (g.stp<|a.tr e) R λz d n=>Tv<|Jo<|DN.end0 V220 ?_
 cases h
 exact⟨c,f,l,R,(s.stp<|T3 a e d),(p.stp d),n⟩
theorem jB {b c}{p0:(List Int)}(d:Oc E6 2 κ w 2 b c p0){r:(List Int)}(h:c7 p0=some r):Ret Tryz.prog 106 [.slice b p0.length c] w (λv w'=>∃(κ':Col),v= .tuple #[]/\Ent κ w κ' w'/\Oc E6 2 κ' w' 2 b c r/\p0.length=r.length):=by
  unfold c7 at h
  split at h
  · rename_i a
    cases h
    exact yq (λe j f zs w g hb i=>Tryz.slices_Sort_int e j f zs w g hb i) d a.1 a.2
  · split at h
    · rename_i a
      cases h
      exact xl Tryz.slices_Sort_int_none d a
    · cases h
theorem nh {s q p t}{p0:Machine}{p1:Int}{a2 B}{p2:(List Int)}(v:Rd (Rp.sl (Rp.int .i64)) κ w 0 s q p0.Next) (T:Rd (Rp.sl (Rp.int .i64)) κ w 0 p t p0.Out) (m:Rd (Rp.int .i64) κ w 0 a2 B p2){r:Int}(h:gN p0 p1 p2=some r):Ret Tryz.prog 55 [.agg #[.slice s p0.Next.length q,.slice p p0.Out.length t],vi p1,.slice a2 p2.length B] w (Pvi κ w r):=by
 unfold gN at h
 refine Jk3 κ F55 R N55 R λG=>Je [1,2] R<|Js3 (κ:=κ) 2 R λS w1 i j F=>Tv<|Jb 1 R<|Jq<|Je3 R ?_
 have I:(p2.length:Int)<=9223372036854775807:=m.len_le
 refine Ob h λA M H=>?_
 clear h
 refine Jx1 (λL w'=>∃κ' o,L=[(1,vi o)]/\Stp [] i w1 κ' w'/\A=cb o) ?_ ?_
 refine Jv<|Jp3 [2,3] (λk E L w'=>∃κ' b e,L=(1,vi e)::(7,vi b)::E/\Stp [] i w1 κ' w'/\0<=b/\hV ((p2.length:Int)-b)=k/\cntM (gO p0 p2) k b e=some A) ⟨_,_,⟨i,0,p1,R,Jj3,(by decide),(by simp),M⟩,(KM R)⟩ ?_
 rintro k _ W ⟨g,b,e,rfl,d,J,U,h⟩
 rcases k with _ | k
 have n:=h;obtain⟨O,h⟩:=cw (cb (eg e):Int⊕((Int)⊕(Int)))
 have c:decide (b<(p2.length:Int))=false:=Jo2 (by omega)
 refine Jq<|Jg3 [2,2,2,2] 2 R<|Jn3 R U37 R R<|Jb 1 R<|Jw2 R c<|Jc1<|Jt<|Jt ?_
 cases h
 have h:=n
 refine Jb1 ?_
 cases h
 exact Jw1 _ ⟨g,e,R,d.wk R,R⟩<|KM R
 obtain⟨O,h,n⟩:=BI h;unfold gO at h
 have c:decide (b<(p2.length:Int))=true:=Jn2 (by omega)
 refine Jq<|Jg3 [2,2,2,2] 2 R<|Jn3 R U37 R R<|Jb 1 R<|Jv2 R c<|Js<|Jp<|Jq<|Jv<|Js1 (κ:=g) [0,2] none [(0,2),(2,2),(5,2),(6,2),(7,2),(1,0),(3,2),(4,0),(8,0),(9,2),(10,0),(11,2)] [] (by kernel_rfl) (by kernel_rfl) λX f=>Jd3 R U33 R Z31<|Jn 3 R<|Ob h λaa y h=>Jc3 R m y U37 Z2<|Jg R (Jc2 I31 R R<|hvC ((F.stp<|d.tr f).ld 0 R R) R)<|Ob h λZ x h=>Jc3 R v x U31 Z37 ?_
 obtain⟨Q,V,u,K⟩:=(v.stp (T3 j d f)).gSl x
 refine Jg R (Jc2 I37 R R<|hvC K R)<|Jg R (Jc2 I2 R R<|hvC ((m.stp<|T3 j d f).gInt y) R)<|Ob h λP z h=>Jc3 R u z U37 Z2<|Jg R (Jc2 I2 R R<|hvC (u.gInt z) R)<|Jn 1 R<|Jt1<|Jo<|Jz<|Jp<|Jf3 R ?_
 have N:bM .i64 (b+1)=b+1:=wr1 J (Jm2 c) I
 rw[N]
 have c:=Jm2 c
 cases h
 exact Jz1 λa ha=>⟨k,_,Ja3 _,⟨g,b+1,P,R,(d.tr f).wk R,by omega,by omega,n⟩,(ha.mm R)⟩
 rintro _ Y ⟨C,o,rfl,D,rfl⟩
 have h:=yI H
 refine Jp<|Je3 R<|Ju<|Ja2 (l:=[.tmp 6]) V55 (Jp2 R R) R ?_
 cases h
 exact⟨C,R,(G.stp<|j.tr D)⟩
end Go.Proofs.YtleekpaohfpooaaGreat
