/- The walks, part 0. By program. -/
import Derived.Test.YtldlmopdhmaceaaGreatDoorFnsMBE
import Derived.Test.YtldlmopdhmaceaaGreatDoorAlBE
set_option linter.unusedVariables false
set_option linter.unusedSimpArgs false
open Go.Wk.Ep renaming bool → FT, own → FU
open Int renaming toNat → FV
open Go.IntKind renaming wrap → FW
open Sum renaming inr → FX
namespace Go.Proofs.YtldlmopdhmaceaaGreatDoor
open Tryz
open Go Go.Wk Go.Proofs
set_option maxRecDepth 100000
set_option maxHeartbeats 1000000
section
variable {w:World}{J:Col}
theorem BB {a b}{p0:VI}(d:Rd (Rp.int .u8) J w 0 a b p0){r:Bool}(h:zX p0=some r):Ret prog 4 [.slice a p0.length b] w (Pvb J w r):=by
 unfold zX at h
 exact Jp3 J func4 R ntmps4 R λc=>Jf3 R<|Jl3 1 R<|Js3 R U22 R R<|Jb 2 R<|Ju<|Jb2 (l:=[.tmp 2]) results4 (Jq2 R R) R<|Oh h<|⟨J,R,c⟩
theorem AL {c e}{p0:VI}{p1:Int}(p:Rd (Rp.int .u8) J w 0 c e p0){r:dice}(h:wo p0 p1=some r):Ret prog 5 [.slice c p0.length e,.int .u64 p1] w (λO a=>∃b B D C,O= .pointer (some ⟨C,0,none⟩)/\Ent J w b a/\Rd (Rp.int .u8) b a 0 B D r.b/\(Bc b a 3 C 41 [.slice B r.b.length D,vi r.i,.int .u64 r.h])):=by
 refine Jp3 J func5 R ntmps5 R λP=>Jf3 R<|Jl3 4 R<|Js3 R U22 R R<|Jf R (Ji2 runUnderlying3 U26 R R)<|Jn 1 R<|Jf R (Jn4 [.slice c p0.length e,vi 0,.int .u64 (FW .u64 ((FW .u64<|p1 * 7919)+(FW .u64 (p0.length:Int))))] R)<|Jx3 J 2 R λo E m H L=>Tv<|Jb 1 R<|Jq<|Jf3 R<|Ob h λA N M=>Jt3 [5] (λk n a=>∃b s,n=k/\Stp [2] m E b a/\Bc b a 2 o 41 [.slice c p0.length e,vi 0,.int .u64 s]/\A=FX s) (Jv<|Ju3 [0,5] (λg k n a=>∃b f d,n=(6,vi f)::k/\Stp [2] m E b a/\Bc b a 2 o 41 [.slice c p0.length e,vi 0,.int .u64 d]/\0<=f/\FV ((p0.length:Int)-f)=g/\cntM (ph p0) g f d=some A) ⟨_,_,⟨m,0,((FW .u64 ((FW .u64<|p1 * 7919)+(FW .u64 (p0.length:Int)))):Int),R,Jo3,L,(by decide),(by simp),N⟩,(KM R)⟩ ?_) ?_
 rintro g _ _ ⟨i,f,d,rfl,G,v,y,j,h⟩
 rcases g with _|g
 exact Jq<|Jl3 2 R<|Js3 R U22 R R<|Jb 1 R<|Jx2 R (dcf j)<|Jc1<|Jt<|Jt<|Jb1<|Oh h<|Jw1 _ ⟨i,d,R,Fct,v,R⟩<|KM R
 exact Ob h λo5 h q=>Jq<|Jl3 2 R<|Js3 R U22 R R<|Jb 1 R<|Jw2 R (dct j)<|Js<|Jp<|Jq<|Jv<|Xr i [0,2] (some 15) [2,5,8,11,20,23,26,12,17,27,32,35,38,41,44] [46] λ_ u=>Jn 2 R<|Jf R (bX R R)<|Je3 R U41 R Z26<|Jn 2 R<|Ob h λt z h=>Jd3 R p z U22 sizeOf5 (have x:=v.stp u;Jg R (Jd2 isAgg26 R R<|hvC (x.ld 2 R R) R) (Jn 1 R<|Jg R (Jd2 isAgg5 R R<|hvC ((p.stp<|T3 H G u).gInt z) R)<|Jf R (Ji2 U5 U26 R R)<|Jn 2 R<|Jf R (bX R R)<|Je3 R U41 R Z26<|Jt1<|Jz3 i 2 (off:=2) (vc:=[.int .u64 (FW .u64 ((FW .u64 ((FW .u64<|d * 1099511628211)+(FW .u64 t)))+3))]) (cs':=[.slice c p0.length e,vi 0,.int .u64 (FW .u64 ((FW .u64 ((FW .u64<|d * 1099511628211)+(FW .u64 t)))+3))]) R Z26 R x R λ_ _ K=>Tv<|Jo<|Jz<|Jp<|Jg3 R<|wr2 y j p.len_le ▸ (Ou h q (λq=>Ja2 ⟨i,f+1,((FW .u64 ((FW .u64 ((FW .u64<|d * 1099511628211)+(FW .u64 t)))+3)):Int),R,Fct,K,nxz y,nxm j,q⟩ R))))
 rintro _ _ ⟨F,s,rfl,_,_,rfl⟩
 exact have h:=yI M;Jp (Jf3 R<|Ju<|Jb2 (l:=[.tmp 4]) results5 (Jq2 R R) R<|Oh h<|⟨(λI=>ren [(2,3)]<|F I),c,e,o,R,Fct,Fct,Fct⟩)
theorem dJ {p0:Int}{p1:Int}{p2:Int}  {r:Bool}(h:gz p0 p1 p2=some r):Ret prog 25 [vi p0,vi p1,vi p2] w (Pvb J w r):=by
 refine Jp3 J func25 R ntmps25 R λe=>Jf3 R<|Jl3 4 R<|Ob h λd h b=>Jk4 [6] 14 d J w 4 tv ?_ ?_
 exact Bk h (λc h=>Jn 4 R<|Oh h<|Jl4 tv R) (λc h=>Jn 4 R<|Oh h<|Jl4 tv R)
 rintro _ _ _ ⟨rfl,a,_⟩
 exact have h:=b;Jb 1 R (Ju<|Jb2 (l:=[.tmp 6]) results25 (Jq2 R R) R<|Oh h<|⟨a,R,Fct⟩)
theorem wT {o t}{p0:(List ByteArray)}{p1:ByteArray}(k:Rd Rp.str J w 0 o t p0){r:ByteArray}(h:vJ p0 p1=some r):Ret prog 29 [.slice o p0.length t,.string p1] w (λG a=>∃b,G= .string r/\Ent J w b a):=by
 refine Jp3 J func29 R ntmps29 R λK=>Jf3 R<|Jf3 R<|Jq<|Jf3 R<|Ob h λs B A=>Jx1 (λd a=>∃b,∃n:ByteArray,d=[(5,.string n)]/\Stp [] J w b a/\s=FX n) (Jv<|Ju3 [0,1] (λe j d a=>∃b c,∃i:ByteArray,d=(5,.string i)::(6,vi c)::j/\Stp [] J w b a/\0<=c/\FV ((p0.length:Int)-c)=e/\cntM (qV p0 p1) e c i=some s) ⟨_,_,⟨J,0,((ByteArray.mk #[]):ByteArray),R,Jo3,(by decide),(by simp),B⟩,(KM R)⟩ ?_) ?_
 rintro e _ H ⟨f,c,i,rfl,y,p,g,h⟩
 rcases e with _|e
 exact Jq<|Jl3 2 R<|Js3 R U33 R R<|Jb 1 R<|Jx2 R (dcf g)<|Jc1<|Jt<|Jt<|Jb1<|Oh h<|Jw1 _ ⟨f,i,R,Fct,R⟩<|KM R
 refine Ob h λL h m=>Jq<|Jl3 2 R<|Js3 R U33 R R<|Jb 1 R<|Jw2 R (dct g)<|Js<|Jp<|Jq<|Jv<|Jq<|Jf3 R<|Ob h λF h z=>Jt3 [0,1,6] (λj d a=>∃b,d=(5,.string F)::j/\Stp [] f H b a) ?_ ?_
 exact Bk h (λC h=>Jy R<|Js<|Oh h<|Jw1 _ ⟨f,R,Jo3⟩<|KM R) (λC h=>Jx R<|Jm3 2 R<|Ob h λ_ D h=>Jf R (dg R R R D)<|Jc 1 R<|Oh h<|Jw1 _ ⟨f,R,Jo3⟩<|KM R)
 rintro _ _ ⟨u,rfl,x⟩
 exact Jp<|Jm3 3 R<|Ob z λ_ q h=>Jd3 R k q U33 Z9<|Jc3 R I9 ((k.stp<|y.tr x).gStr q)<|Ob h λI E h=>Jf R (dg R R R E)<|Jc 1 R<|Jz<|Jp<|Jg3 R<|wr2 p g k.len_le ▸ (Ou h m (λm=>Ja2 ⟨u,c+1,I,R,Fct,nxz p,nxm g,m⟩ R))
 rintro _ _ ⟨v,n,rfl,_,rfl⟩
 exact have h:=yI A;Jp (Jf3 R<|Ju<|Jb2 (l:=[.tmp 4]) results29 (Jq2 R R) R<|Oh h<|⟨v,R,Fct⟩)
theorem jr {p0 p1:ByteArray}  {r:ByteArray}(h:strings_TrimSuffix p0 p1=some r):Ret prog 19 [.string p0,.string p1] w (λa b=>∃(c:Col),a= .string r/\Ent J w c b):=Dy Tryz.strings_TrimSuffix h
theorem g7 {p0 p1:ByteArray}(e:Vm 2 J w){r:(List ByteArray)}(h:strings_Split p0 p1=some r):Ret prog 18 [.string p0,.string p1] w (λf c=>∃(d:Col) (a:Option Addr) (b:Nat),f= .slice a r.length b/\Ent J w d c/\Oc Ep.str 9 d c 2 a b r):=Ci Tryz.strings_Split e h
theorem ke {p0:ByteArray}{p1:Int}  {r:Int×Bool}(h:kw p0 p1=some r):Ret prog 38 [.string p0,vi p1] w (λV e=>∃f,V= .tuple #[vi r.1,.bool r.2]/\Ent J w f e):=by
 refine Jp3 J func38 R ntmps38 R λY=>Jf3 R<|Jq<|Jl3 1 R<|Jf R (cR R R R)<|Jn 1 R<|Ob h λQ h y=>Jk4 [0,1] 14 Q J w 4 tv ?_ ?_
 exact Bk h (λG h=>Jn 1 R<|Jf R (nr U9 R R)<|Jn 2 R<|Oh h<|Jl4 tv R) (λG h=>Jn 4 R<|Oh h<|Jl4 tv R)
 rintro _ v _ ⟨rfl,p,_⟩
 refine Jn 1 R<|Ob y λT h A=>Jk4 [0,1] 24 T p v 9 tv ?_ ?_
 refine Bk h (λK h=>Jn 1 R<|Ob h λaa M h=>Jf R (lj U9 M R R R)<|Jn 2 R<|Ob h λS h B=>Jk4 [0,1,15] 23 S p v 4 tv ?_ ?_) (λK h=>Jn 9 R<|Oh h<|Jl4 tv R)
 exact Bk h (λL h=>Jn 4 R<|Oh h<|Jl4 tv R) (λL h=>Jn 1 R<|Jf R (nr U9 R R)<|Jn 2 R<|Oh h<|Jl4 tv R)
 rintro _ _ _ ⟨rfl,_,_⟩
 exact have h:=B;Jn 1 R (Oh h<|Jv1 _ tv ⟨R,_,Fct⟩<|KM R)
 rintro _ u _ ⟨rfl,g,_⟩
 refine have h:=A;Jd ?_
 refine Bk h (λF h=>Jy R<|Js<|Jp<|Jf3 R<|Jq<|Jf3 R (Ob h λ_ E h=>have C:=gk E;Ob h λt D q=>Jt3 [1] (λj k e=>∃f m,k=(6,vi m)::j/\Stp [] g u f e/\t=FX m) (Jv<|Ju3 [0,1] (λc j k e=>∃f b d,k=(6,vi d)::(7,vi b)::j/\Stp [] g u f e/\0<=b/\FV ((p0.size:Int)-b)=c/\cntM (nY p0) c b d=some t) ⟨_,_,⟨g,0,(0:Int),R,Jo3,(by decide),(by simp),D⟩,(KM R)⟩ ?_) ?_)) (λF h=>Jx R<|Jf3 R<|Ju<|Jw<|Jb2 (l:=[.tmp 4,.tmp 5]) results38 (Jq2 R<|Jq2 R R) R<|Oh h<|⟨g,R,Fct⟩)
 rintro c _ W ⟨n,b,d,rfl,_,s,i,h⟩
 rcases c with _|c
 exact Jq<|Jl3 2 R<|Jf R (nr U9 R R)<|Jb 1 R<|Jx2 R (dcf i)<|Jc1<|Jt<|Jt<|Jb1<|Oh h<|Jw1 _ ⟨n,d,R,Fct,R⟩<|KM R
 refine Ob h λZ h a=>Jq<|Jl3 2 R<|Jf R (nr U9 R R)<|Jb 1 R<|Jw2 R (dct i)<|Js<|Jp<|Jq<|Jv<|Jq<|Jl3 2 R<|Ob h λab N h=>Jf R (lj U9 N R R R)<|Jn 2 R<|Ob h λU h z=>Jk4 [0,1,6,7] 40 U n W 5 tv ?_ ?_
 exact Bk h (λH h=>Jn 2 R<|Ob h λ_ O h=>Jf R (lj U9 O R R R)<|Jn 2 R<|Oh h<|Jl4 tv R) (λH h=>Jn 5 R<|Oh h<|Jl4 tv R)
 rintro _ _ _ ⟨rfl,o,_⟩
 refine have h:=z;Jd ?_
 exact Bk h (λI h=>Jy R<|Js<|Jp<|Jm3 4 R<|Ob h λX P h=>Jf R (lj U9 P R R R)<|Jn 1 R<|Jf R (Ji2 U5 U2 R R)<|Jc 2 R<|Jz<|Jp<|Jg3 R<|wr2 s i C ▸ (Ou h a (λa=>Ja2 ⟨o,b+1,((FW .i64 ((FW .i64 (10 * d))+(FW .i64<|FW .u8<|X-48))):Int),R,Fct,nxz s,nxm i,a⟩ R))) (λI h=>Jx R<|Jf3 R<|Ju<|Jw<|Ja1<|Jw<|Jw<|Ou h a (λa=>Ov a q (λh=>Ja1<|Jr2<|Jw<|Jb2 (l:=[.tmp 4,.tmp 5]) results38 (Jq2 R<|Jq2 R R) R<|Oh h<|⟨o,R,Fct⟩)))
 rintro _ _ ⟨x,m,rfl,_,rfl⟩
 exact have h:=yI q;Jp (Jf3 R<|Ju<|Jb2 (l:=[.tmp 4,.tmp 5]) results38 (Jq2 R<|Jq2 R R) R<|Oh h<|⟨x,R,Fct⟩)
theorem gf {p0:Sig}  {r:Int}(h:dY p0=some r):Ret prog 80 [.agg #[vi p0.In,vi p0.Out]] w (Pvi J w r):=by
 exact Jp3 J func80 R ntmps80 R λd=>Jj3<|Jx3 J 2 R λ_ _ b _ a=>Tv<|Jb 1 R<|Jj3<|Je3 R U39 R Z2<|Jc3 R I2 (a.ld 0 R R)<|Je3 R U39 R Z2<|Jc3 R I2 (a.ld 1 R R)<|Jn 1 R<|Ob h λ_z8 c h=>Jf R (rU R R R<|vy c)<|Jb 1 R<|Ju<|Jb2 (l:=[.tmp 2]) results80 (Jq2 R R) R<|Oh h<|⟨b,R,Fct⟩
theorem kZ {o v}{p0:VI}{p1:Int}(g:Rd Ri J w 0 o v p0){r:Bool}(h:lN p0 p1=some r):Ret prog 103 [.slice o p0.length v,vi p1] w (Pvb J w r):=by
 refine Jp3 J func103 R ntmps103 R λP=>Jf3 R<|Jq<|Jl3 1 R<|Js3 R U30 R R<|Jb 1 R<|Ob h λu F p=>Jx1 (λe i=>∃j,e=[]/\Stp [] J w j i/\u=FX ()) (Jv<|Ju3 [0,1,7,8] (λc y e i=>∃j b,e=(9,vi b)::y/\Stp [] J w j i/\0<=b/\FV ((p0.length:Int)-b)=c/\cntM (na p0 p1) c b ()=some u) ⟨_,_,⟨J,0,R,Jo3,(by decide),(by simp),F⟩,(KM R)⟩ ?_) ?_
 rintro c _ O ⟨n,b,rfl,B,q,d,h⟩
 rcases c with _|c
 exact Jf3 R<|Jq<|Jx2 R (dcf d)<|Jc1<|Jt<|Jt<|Jb1<|Oh h<|Jw1 _ ⟨n,R,Fct,R⟩ KN
 refine Ob h λQ h a=>Jf3 R<|Jq<|Jw2 R (dct d)<|Js<|Jp<|Jq<|Jv<|Jl3 1 R<|Ob h λS s h=>Jd3 R g s U30 Z2 (have f:=g.stp B;Jc3 R I2 (f.gInt s) (Jb 2 R<|Jl3 3 R<|Ob h λL h C=>Jk4 [0,1,5,6,7,8,9] 20 L n O 4 tv ?_ ?_))
 exact Bk h (λG h=>Jn 4 R<|Oh h<|Jl4 tv R) (λG h=>Jn 4 R<|Oh h<|Jl4 tv R)
 rintro _ x _ ⟨rfl,k,A⟩
 refine Jn 1 R<|Ob C λN h D=>Jk4 [0,1,7,8,9] 33 N k x 12 tv ?_ ?_
 refine Bk h (λH h=>Jn 3 R<|Ob h λM h E=>Jk4 [0,1,7,8,9,21,22,23,24] 32 M k x 8 tv ?_ ?_) (λH h=>Jn 8 R<|Je4 R<|Jn 3 R<|Oh h<|Jl4 tv R)
 exact Bk h (λI h=>Jn 5 R<|Je4 R<|Jn 2 R<|Oh h<|Jl4 tv R) (λI h=>Jn 4 R<|Ob h λ_ t h=>Jd3 R f t U30 Z2<|Jc3 R I2 ((f.stp A).gInt t)<|Jn 2 R<|Oh h<|Jl4 tv R)
 rintro _ _ _ ⟨rfl,_,_⟩
 exact have h:=E;Jn 1 R (Oh h<|Jv1 _ tv ⟨R,_,Fct⟩<|KM R)
 rintro _ _ _ ⟨rfl,m,_⟩
 refine have h:=D;Jd ?_
 exact Bk h (λK h=>Jy R<|Js<|Jz<|Jp<|Jg3 R<|wr2 q d g.len_le ▸ (Ou h a (λa=>Ja2 ⟨m,b+1,R,Fct,nxz q,nxm d,a⟩ R))) (λK h=>Jx R<|Jf3 R<|Ju<|Ja1<|Jw<|Jw<|Ou h a (λa=>Ov a p (λh=>Ja1<|Jr2<|Jw<|Jb2 (l:=[.tmp 4]) results103 (Jq2 R R) R<|Oh h<|⟨m,R,Fct⟩)))
 rintro _ _ ⟨z,rfl,_,rfl⟩
 exact have h:=yI p;Jp (Jf3 R<|Ju<|Jb2 (l:=[.tmp 4]) results103 (Jq2 R R) R<|Oh h<|⟨z,R,Fct⟩)
theorem oS {p0 p1 : Int} (gGT : Tb prog "internal/strconv.uint64pow10" .u64 Lib.pow10Tab J w) {r : ByteArray} (h : jo p0 p1 = some r) : Ret prog 104 [vi p0, vi p1] w (fun v w' => ∃ (κ' : Col), v = .string r ∧ Ent J w κ' w') := DV Tryz.strconv_FormatInt_10 gGT h
theorem dM {k q}{p0:VI}{p1:Int}(g:Rd Ri J w 0 k q p0){r:Int}(h:cS p0 p1=some r):Ret prog 112 [.slice k p0.length q,vi p1] w (Pvi J w r):=by
 refine Jp3 J func112 R ntmps112 R λy=>Jf3 R<|Jq<|Jl3 1 R<|Js3 R U30 R R<|Jb 1 R<|Ob h λp v m=>Jx1 (λf i=>∃j,f=[]/\Stp [] J w j i/\p=FX ()) (Jv<|Ju3 [0,1,7] (λc s f i=>∃j b,f=(8,vi b)::s/\Stp [] J w j i/\0<=b/\FV ((p0.length:Int)-b)=c/\cntM (dL p0 p1) c b ()=some p) ⟨_,_,⟨J,0,R,Jo3,(by decide),(by simp),v⟩,(KM R)⟩ ?_) ?_
 rintro c _ _ ⟨e,b,rfl,u,n,d,h⟩
 rcases c with _|c
 exact Jf3 R<|Jq<|Jx2 R (dcf d)<|Jc1<|Jt<|Jt<|Jb1<|Oh h<|Jw1 _ ⟨e,R,Fct,R⟩ KN
 refine Ob h λz h a=>Jf3 R<|Jq<|Jw2 R (dct d)<|Js<|Jp<|Jq<|Jv<|Jf3 R<|Jl3 3 R<|Ob h λA o h=>Jd3 R g o U30 Z2<|Jc3 R I2 ((g.stp u).gInt o)<|Jb 1 R ?_
 exact Bk h (λx h=>Jy R<|Js<|Jz<|Jp<|Jg3 R<|wr2 n d g.len_le ▸ (Ou h a (λa=>Ja2 ⟨e,b+1,R,Fct,nxz n,nxm d,a⟩ R))) (λx h=>Jx R<|Jf3 R<|Ju<|Ja1<|Jw<|Jw<|Ou h a (λa=>Ov a m (λh=>Ja1<|Jr2<|Jw<|Jb2 (l:=[.tmp 4]) results112 (Jq2 R R) R<|Oh h<|⟨e,R,Fct⟩)))
 rintro _ _ ⟨t,rfl,_,rfl⟩
 exact have h:=yI m;Jp (Jf3 R<|Ju<|Jb2 (l:=[.tmp 4]) results112 (Jq2 R R) R<|Oh h<|⟨t,R,Fct⟩)
theorem qt {p0:Int}{c0:Int}{a}(c:Bc J w 0 a 2 [vi c0]){r:Bool}(h:fS p0 c0=some r):Ret prog 198 [vi p0,.pointer (some ⟨a,0,none⟩)] w (Pvb J w r):=by
 refine Jp3 J func198 R ntmps198 R λg=>Jf3 R<|Jl3 3 R<|Ob h λf h d=>Jk4 [1,3] 10 f J w 4 tv ?_ ?_
 exact Bk h (λe h=>Jn 1 R<|Jc3 R I2 (c.ld 0 R R)<|Jn 2 R<|Oh h<|Jl4 tv R) (λe h=>Jn 1 R<|Je4 R<|Jn 2 R<|Oh h<|Jl4 tv R)
 rintro _ _ _ ⟨rfl,b,_⟩
 exact have h:=d;Jb 1 R (Ju<|Jb2 (l:=[.tmp 3]) results198 (Jq2 R R) R<|Oh h<|⟨b,R,Fct⟩)
theorem dW {b c}{p0:VI}(d:Oc E6 2 J w 2 b c p0){r:VI}(h:cr p0=some r):Ret prog 176 [.slice b p0.length c] w (λn e=>∃(f:Col),n= .tuple #[]/\Ent J w f e/\Oc E6 2 f e 2 b c r/\p0.length=r.length):=by
  unfold cr at h
  split at h
  .rename_i a
   cases h
   exact Dw (λg m i o w j k l=>Tryz.slices_Sort_int g m i o w j k l) d a.1 a.2
  .split at h
   .rename_i a
    cases h
    exact Cc Tryz.slices_Sort_int_none d a
   .cases h
theorem xH {x B y A}{p0:Arena}{v G}{p1:VI}(ab:Rd Ri J w 0 x B p0.Owner) (ac:Rd Rs J w 0 y A p0.Next) (q:Rd Ri J w 0 v G p1){r:VB}(h:qy p0 p1=some r):Ret prog 204 [.agg #[.slice x p0.Owner.length B,.slice y p0.Next.length A],.slice v p1.length G] w (Pvs FT 4 J w r):=by
 refine Jp3 J func204 R ntmps204 R λad=>Jj3<|Jx3 J 2 R λ_ _ L O T=>Tv<|Jb 1 R<|Jj3<|Je3 R U53 R Z30<|Jc3 R I30 (T.ld 0 R R)<|Js3 R U30 R R<|Ob h λj Z h=>Jl1 (J:=L) (E:=FT) (z:=(false:Bool)) 3 R R R R R R R Y179 dw R R R R R (λ_ _ _=>R) (Jv2 Z) λo n H k P U=>Tv<|Jb 1 R<|Jq<|Jl3 1 R<|Js3 R U30 R R<|Jb 1 R<|Ob h λF Y V=>Jt3 [5] (λb m e=>∃f,∃i:VB,m=b/\Stp [3] k H f e/\Oc FT 4 f e 3 o n i/\j.length=i.length/\F=FX i) (Jv<|Ju3 [5,12,13] (λc b m e=>∃f a,∃d:VB,m=(14,vi a)::b/\Stp [3] k H f e/\Oc FT 4 f e 3 o n d/\j.length=d.length/\0<=a/\FV ((p1.length:Int)-a)=c/\cntM (lP p1) c a d=some F) ⟨_,_,⟨k,0,j,R,Jo3,U,R,(by decide),(by simp),Y⟩,(KM R)⟩ ?_) ?_
 rintro c _ _ ⟨u,a,d,rfl,N,p,t,C,g,h⟩
 rcases c with _|c
 exact Jf3 R<|Jq<|Jx2 R (dcf g)<|Jc1<|Jt<|Jt<|Jb1<|Oh h<|Jw1 _ ⟨u,d,R,Fct,p,t,R⟩<|KM R
 exact Ob h λae h s=>Jf3 R<|Jq<|Jw2 R (dct g)<|Js<|Jp<|Jq<|Jv<|Jj3<|Ob h λ_ D h=>Jd3 R q D U30 Z2<|Jc3 R I2 ((q.stp<|T3 O P N).gInt D)<|Jb 1 R<|Jm3 2 R<|Ob h λ_ aa h=>Jf R (Jg2 p.rdc aa U179 Z4 R R t R) (Ob h λI E h=>Jk1 (J:=u) (E:=FT) 3 [] R R R R R R R R Z4 R R R R p E λ_ M _ S=>Tv<|have X:j.length=I.length:=t.trans (Ju2 E).2.2.2.symm;Jo (Jz<|Jp<|Jg3 R<|wr2 C g q.len_le ▸ (Ou h s (λs=>Ja2 ⟨M,a+1,I,R,Fct,S,X,nxz C,nxm g,s⟩ R))))
 rintro _ _ ⟨K,i,rfl,_,_,W,rfl⟩
 exact have h:=yI V;Jp (Jf3 R<|Ju<|Jb2 (l:=[.tmp 4]) results204 (Jq2 R R) R<|Oh h<|⟨(λQ=>ren [(3,2)]<|K Q),o,n,(by simp only[W]),Fct,Fct⟩)
theorem yY {t y x u s v}{p0:Parity}{q E}{p1:VI}(N:Rd Ri J w 0 t y p0.Arena.Owner) (O:Rd Rs J w 0 x u p0.Arena.Next) (z:Rd Ri J w 0 s v p0.Prio) (i:Rd Ri J w 0 q E p1){r:Int}(h:sY p0 p1=some r):Ret prog 237 [.agg #[.slice t p0.Arena.Owner.length y,.slice x p0.Arena.Next.length u,.slice s p0.Prio.length v],.slice q p1.length E] w (Pvi J w r):=by
 refine Jp3 J func237 R ntmps237 R λP=>Jj3<|Jx3 J 2 R λ_ F e p K=>Tv<|Jb 1 R<|Jf3 R<|Jq<|Jl3 1 R<|Js3 R U30 R R<|Jb 1 R<|Ob h λD M L=>Jx1 (λf m=>∃n k,f=[(5,vi k)]/\Stp [] e F n m/\D=FX k) (Jv<|Ju3 [2,8,9] (λc H f m=>∃n b a,f=(5,vi a)::(10,vi b)::H/\Stp [] e F n m/\0<=b/\FV ((p1.length:Int)-b)=c/\cntM (ng p0 p1) c b a=some D) ⟨_,_,⟨e,0,((-1):Int),R,Jo3,(by decide),(by simp),M⟩,(KM R)⟩ ?_) ?_
 rintro c _ _ ⟨o,b,a,rfl,g,A,d,h⟩
 rcases c with _|c
 exact Jf3 R<|Jq<|Jx2 R (dcf d)<|Jc1<|Jt<|Jt<|Jb1<|Oh h<|Jw1 _ ⟨o,a,R,Fct,R⟩<|KM R
 exact Ob h λo5 h j=>Jf3 R<|Jq<|Jw2 R (dct d)<|Js<|Jp<|Jq<|Jv<|Jj3<|Ob h λ_ B h=>Jd3 R i B U30 Z2<|Jc3 R I2 ((i.stp<|p.tr g).gInt B)<|Jb 1 R<|Jm3 1 R<|Je3 R U55 R Z30<|Jc3 R I30 ((K.stp g).ld 2 R R)<|Jn 1 R<|Ob h λG C h=>Jd3 R z C U30 Z2<|Jc3 R I2 ((z.stp<|p.tr g).gInt C)<|Jf R (wL R R R)<|Jc 1 R<|Jz<|Jp<|Jg3 R<|wr2 A d i.len_le ▸ (Ou h j (λj=>Ja2 ⟨o,b+1,((if a<G then G else a):Int),R,Fct,nxz A,nxm d,j⟩ R))
 rintro _ _ ⟨I,k,rfl,_,rfl⟩
 exact have h:=yI L;Jp (Jf3 R<|Ju<|Jb2 (l:=[.tmp 4]) results237 (Jq2 R R) R<|Oh h<|⟨I,R,Fct⟩)
theorem ja {x H}{p0:VB}{y I}{p1:VB}(o:Rd Rp.bool J w 0 x H p0) (B:Rd Rp.bool J w 0 y I p1){r:VB}(h:gP p0 p1=some r):Ret prog 207 [.slice x p0.length H,.slice y p1.length I] w (Pvs FT 4 J w r):=by
 refine Jp3 J func207 R ntmps207 R λad=>Jf3 R<|Jl3 1 R<|Js3 R U179 R R<|Ob h λj aa h=>Jl1 (J:=J) (E:=FT) (z:=(false:Bool)) 2 R R R R R R R Y179 dw R R R R R (λ_ _ _=>R) (Jv2 aa) λn s K k v S=>Tv<|Jb 1 R<|Jq<|Jl3 1 R<|Js3 R U179 R R<|Jb 1 R<|Ob h λG X U=>Jt3 [5] (λb m e=>∃f,∃i:VB,m=b/\Stp [2] k K f e/\Oc FT 4 f e 2 n s i/\j.length=i.length/\G=FX i) (Jv<|Ju3 [0,1,5,11] (λc b m e=>∃f a,∃d:VB,m=(12,vi a)::b/\Stp [2] k K f e/\Oc FT 4 f e 2 n s d/\j.length=d.length/\0<=a/\FV ((p0.length:Int)-a)=c/\cntM (kE p0 p1) c a d=some G) ⟨_,_,⟨k,0,j,R,Jo3,S,R,(by decide),(by simp),X⟩,(KM R)⟩ ?_) ?_
 rintro c _ ac ⟨t,a,d,rfl,u,A,q,C,g,h⟩
 rcases c with _|c
 exact Jf3 R<|Jq<|Jx2 R (dcf g)<|Jc1<|Jt<|Jt<|Jb1<|Oh h<|Jw1 _ ⟨t,d,R,Fct,A,q,R⟩<|KM R
 refine Ob h λo5 h p=>Jf3 R<|Jq<|Jw2 R (dct g)<|Js<|Jp<|Jq<|Jv<|Jf3 R<|Jm3 4 R<|Ob h λae D h=>Jd3 R o D U179 Z4<|Jc3 R I4 ((o.stp<|v.tr u).gBool D)<|Jn 1 R<|Ob h λab h T=>Jk4 [0,1,5,11,12,15,16] 27 ab t ac 6 tv ?_ ?_
 exact Bk h (λY h=>Jn 3 R<|Je4 R<|Jn 2 R<|Oh h<|Jl4 tv R) (λY h=>Jn 2 R<|Ob h λ_ E h=>Jd3 R B E U179 Z4<|Jc3 R I4 ((B.stp<|v.tr u).gBool E)<|Jn 2 R<|Oh h<|Jl4 tv R)
 rintro _ _ _ ⟨rfl,M,_⟩
 exact Ob T λ_ Z h=>Jf R (Jg2 A.rdc Z U179 Z4 R R q R) (Ob h λL F h=>Jk1 (J:=M) (E:=FT) 2 [] R R R R R R R R Z4 R R R R Fct F λ_ N _ Q=>Tv<|have W:j.length=L.length:=q.trans (Ju2 F).2.2.2.symm;Jo (Jz<|Jp<|Jg3 R<|wr2 C g o.len_le ▸ (Ou h p (λp=>Ja2 ⟨N,a+1,L,R,Fct,Q,W,nxz C,nxm g,p⟩ R))))
 rintro _ _ ⟨O,i,rfl,_,P,V,rfl⟩
 exact have h:=yI U;Jp (Jf3 R<|Ju<|Jb2 (l:=[.tmp 4]) results207 (Jq2 R R) R<|Oh h<|⟨O,n,s,(by simp only[V]),Fct,P⟩)
theorem uN {A D B C}{p0:Answer}{p1:Int}(u:Rd Ri J w 0 A D p0.Won) (ak:Rd Ri J w 0 B C p0.Plan){r:VI}(h:mZ p0 p1=some r):Ret prog 229 [.agg #[.slice A p0.Won.length D,.slice B p0.Plan.length C],vi p1] w (Pvs E6 2 J w r):=by
 refine Jp3 J func229 R ntmps229 R λal=>Jj3<|Jx3 J 2 R λ_ _ y Q F=>Tv<|Jb 1 R<|Jq<|Jj3<|Je3 R U146 R Z30<|Jc3 R I30 (F.ld 0 R R)<|Js3 R U30 R R<|Jb 1 R ?_
 refine Bk h (λaf h=>Jy R<|Js<|Jp<|Jj3<|Jc4 y E6 3 R Y30 bS R λT V K t z X=>Tv<|Jb 1 R<|Jq<|Jj3<|Je3 R U146 R Z30<|Jc3 R I30 ((F.stp z).ld 0 R R)<|Js3 R U30 R R<|Jb 1 R<|Ob h λI ad ab=>Jx1 (λd a=>∃b,∃q:VI,∃o k,d=[(5,.slice o q.length k)]/\Stp [3] t K b a/\Oc E6 2 b a 3 o k q/\I=FX q) (Jv<|Ju3 [1,14,15] (λg s d a=>∃b c,∃i:VI,∃e f,d=(5,.slice e i.length f)::(16,vi c)::s/\Stp [3] t K b a/\Oc E6 2 b a 3 e f i/\0<=c/\FV ((p0.Won.length:Int)-c)=g/\cntM (jJ p0 p1) g c i=some I) ⟨_,_,⟨t,0,([]:VI),T,V,R,Jo3,X,(by decide),(by simp),ad⟩,(KM R)⟩ ?_) ?_) (λaf h=>Jx R<|Jf3 R<|Ju<|Jw<|Jb2 (l:=[.tmp 4]) results229 (Jq2 R R) R<|Oh h<|⟨y,none,0,R,Fct,Ow.nil⟩)
 rintro g _ ah ⟨j,c,i,e,f,rfl,P,E,G,p,h⟩
 rcases g with _|g
 exact Jf3 R<|Jq<|Jx2 R (dcf p)<|Jc1<|Jt<|Jt<|Jb1<|Oh h<|Jw1 _ ⟨j,i,e,f,R,Fct,E,R⟩<|KM R
 refine Ob h λam h v=>Jf3 R<|Jq<|Jw2 R (dct p)<|Js<|Jp<|Jq<|Jv<|Jl3 1 R<|Ob h λan H h=>Jd3 R u H U30 Z2<|Jc3 R I2 ((u.stp<|T3 Q z P).gInt H)<|Jb 2 R<|Jf3 R<|Ob h λx h ac=>Jt3 [1,14,15,16] (λs d a=>∃b n m,d=(5,.slice n x.length m)::s/\Stp [3] j ah b a/\Oc E6 2 b a 3 n m x) ?_ ?_
 exact Bk h (λae h=>Jy R<|Js<|Oh h<|Jw1 _ ⟨j,e,f,R,Jo3,E⟩<|KM R) (λae h=>Jx R<|Jm3 2 R<|Ji4 j 4 [c] R Y30 bS R λaj ai _ N _ Z=>Tv<|Ob h λ_ ag h=>Jd4 N E6 3 [] R Y30 bS R Fct (Sl.srcP (cd _) Z.rdc) bU ag R λU S _ O _ aa=>Tv<|Jc 1 R<|Oh h<|Jw1 _ ⟨O,U,S,R,Fct,aa⟩<|KM R)
 rintro _ _ ⟨M,n,m,rfl,_,Y⟩
 exact have h:=ac;Jz (Jp<|Jg3 R<|wr2 G p u.len_le ▸ (Ou h v (λv=>Ja2 ⟨M,c+1,x,n,m,R,Fct,Y,nxz G,nxm p,v⟩ R)))
 rintro _ _ ⟨L,q,o,k,rfl,_,_,rfl⟩
 exact have h:=yI ab;Jp (Jf3 R<|Ju<|Jb2 (l:=[.tmp 4]) results229 (Jq2 R R) R<|Oh h<|⟨(λW=>ren [(3,2)]<|L W),o,k,R,Fct,Fct⟩)
theorem rE {p0:Int}{b i}{c0:VL}{e:Int}{c d}(f:Rd Place.rp J w 0 b i c0) (j:Bc J w 0 c 126 [.slice b c0.length i]) (k:Bc J w 0 d 2 [vi e]){r:Bool}(h:jM p0 c0 e=some r):Ret prog 197 [vi p0,.pointer (some ⟨c,0,none⟩),.pointer (some ⟨d,0,none⟩)] w (Pvb J w r):=by
 refine Jp3 J func197 R ntmps197 R λt=>Jf3 R<|Jq<|Xn J [0] [5,0,8,11,12,15,20,23] λ_ a=>Jn 1 R<|Jg R (Jd2 isAgg126 R R<|hvC ((j.stp a).ld 0 R R) R)<|Ob h λ_ g h=>Jd3 R f g U126 Z149<|Je3 R U149 R Z2 ?_
 obtain⟨_,n,m⟩:=((f.stp a)).gSt g
 obtain⟨q,u,rfl,s⟩:=Place.un n
 exact Jg R (Jd2 I2 R R<|hvC (λp o=>m p o 0 _ R) R)<|Jg R (Jd2 I2 R R<|hvC ((k.stp a).ld 0 R R) R)<|Jn 2 R<|Jt1<|Jd<|Ju<|Jb2 (l:=[.tmp 4]) results197 (Jq2 R R) R<|Oh h<|⟨J,R,Fct⟩
theorem sB {p0:Sig}{f c e d}{p1:Det}(m:Rd Rs J w 0 f c p1.Next) (n:Rd Pair.rp J w 0 e d p1.Pairs){r:Det}(h:mY p0 p1=some r):Ret prog 61 [.agg #[vi p0.In,vi p0.Out],.agg #[.slice f p1.Next.length c,.slice e p1.Pairs.length d]] w (λl a=>∃b g j i k,l= .agg #[.slice g r.Next.length j,.slice i r.Pairs.length k]/\Ent J w b a/\Oc (FU E6 2) 30 b a 2 g j r.Next/\Oc Pair.ep120 120 b a 3 i k r.Pairs):=by
 unfold mY at h
 cases h
theorem tM {p0:Int}{e j}{c0:VI}{a}(t:Oc E6 2 J w 2 e j c0) (o:Bc J w 3 a 30 [.slice e c0.length j]){r:VI}(h:sj p0 c0=some r):Ret prog 269 [vi p0,.pointer (some ⟨a,0,none⟩)] w (λq b=>∃c g i,q= .tuple #[]/\Ent J w c b/\Oc E6 2 c b 2 g i r/\Bc c b 3 a 30 [.slice g r.length i]):=by
 exact Jp3 J func269 R ntmps269 R λu=>Jk3<|Jc3 R I30 (o.ld 0 R R)<|Jn 1 R<|Ji4 J 4 [p0] R Y30 bS R λ_ _ _ l _ n=>Tv<|Ob h λs p h=>Jd4 l E6 2 [] R Y30 bS R Fct (Sl.srcP (cd _) n.rdc) bU p R λf k _ d _ _=>Tv<|Ja4 d 3 (vc:=[.slice f s.length k]) R Z30 R Fct R λ_ _ m=>Tv<|Jo<|DN.end0 results269<|Oh h<|⟨d,f,k,R,Fct,Fct,m⟩
theorem nT {b c}{p0:VV}(n:Oc (Ep.fz Rs) 30 J w 2 b c p0){r:VV}(h:eC p0=some r):Ret prog 270 [.slice b p0.length c,.func (.func 271) #[] #[]] w (λx f=>∃(g:Col),x= .tuple #[]/\Ent J w g f/\Oc (Ep.fz Rs) 30 g f 2 b c r/\p0.length=r.length):=by
  unfold eC at h
  split at h
  .rename_i a
   cases h
   exact Ce Tryz.slices_Compare (Tryz.slices_SortFunc_none (α:=Nat)) (@λd _ m o k p i v j l w s a q u=>Tryz.slices_SortFunc (α:=d) m o k p 271 #[] i v j l w call271 s a q u) n a.1 (λe t=>by have:=List.all_eq_true.1 a.2 e t;cases e <;> simp_all)
  .cases h
theorem rC {a d c g b f e i}{p0:bench}{j}(n:Rd Clause.rp J w 0 a d p0.clauses) (o:Rd Ri J w 0 c g p0.game.Arena.Owner) (p:Rd Rs J w 0 b f p0.game.Arena.Next) (q:Rd Ri J w 0 e i p0.game.Prio) (s:Bc J w 0 j 57 [vi p0.sig.In,vi p0.sig.Out,.slice a p0.clauses.length d,.slice c p0.game.Arena.Owner.length g,.slice b p0.game.Arena.Next.length f,.slice e p0.game.Prio.length i]){r:ByteArray}(h:mn p0=some r):Ret prog 69 [.pointer (some ⟨j,0,none⟩)] w (λk l=>∃m,k= .string r/\Ent J w m l):=by
 unfold mn at h
 cases h
theorem vZ {b f e c a d}{p0:Parity}(g:Rd Ri J w 0 b f p0.Arena.Owner) (i:Rd Rs J w 0 e c p0.Arena.Next) (j:Rd Ri J w 0 a d p0.Prio){r:Bool}(h:rm p0=some r):Ret prog 71 [.agg #[.slice b p0.Arena.Owner.length f,.slice e p0.Arena.Next.length c,.slice a p0.Prio.length d]] w (Pvb J w r):=by
 unfold rm at h
 cases h
theorem pT {a d c g b f e i}{p0:bench}{p1:ByteArray}{j}(n:Rd Clause.rp J w 0 a d p0.clauses) (o:Rd Ri J w 0 c g p0.game.Arena.Owner) (p:Rd Rs J w 0 b f p0.game.Arena.Next) (q:Rd Ri J w 0 e i p0.game.Prio) (s:Bc J w 0 j 57 [vi p0.sig.In,vi p0.sig.Out,.slice a p0.clauses.length d,.slice c p0.game.Arena.Owner.length g,.slice b p0.game.Arena.Next.length f,.slice e p0.game.Prio.length i]){r:ByteArray}(h:kc p0 p1=some r):Ret prog 37 [.pointer (some ⟨j,0,none⟩),.string p1] w (λk l=>∃m,k= .string r/\Ent J w m l):=by
 unfold kc at h
 cases h
theorem sG {a d c g b f e i}{p0:bench}{p1:ByteArray}{p2:ByteArray}{j}(n:Rd Clause.rp J w 0 a d p0.clauses) (o:Rd Ri J w 0 c g p0.game.Arena.Owner) (p:Rd Rs J w 0 b f p0.game.Arena.Next) (q:Rd Ri J w 0 e i p0.game.Prio) (s:Bc J w 0 j 57 [vi p0.sig.In,vi p0.sig.Out,.slice a p0.clauses.length d,.slice c p0.game.Arena.Owner.length g,.slice b p0.game.Arena.Next.length f,.slice e p0.game.Prio.length i]){r:ByteArray}(h:m0 p0 p1 p2=some r):Ret prog 40 [.pointer (some ⟨j,0,none⟩),.string p1,.string p2] w (λk l=>∃m,k= .string r/\Ent J w m l):=by
 unfold m0 at h
 cases h
theorem y9 {p0:ByteArray}  {r:(List ByteArray)}(h:tb p0=some r):Ret prog 8 [.string p0] w (Pvs Ep.str 9 J w r):=by
 refine Jp3 J func8 R ntmps8 R λad=>Jf3 R<|Jj3<|Jc4 J Ep.str 2 R Y33 dx R λG Z A u _ O=>Tv<|Jb 1 R<|Jf3 R<|Jq<|Jf3 R (Ob h λ_ U h=>have S:=gk U;Ob h λz T Q=>Jx1 (λe a=>∃b,∃s:(List ByteArray)×Int,∃p m,e=[(3,.slice p s.1.length m)]/\Stp [2] u A b a/\Oc Ep.str 9 b a 2 p m s.1/\z=FX s) (Jv<|Ju3 [0] (λi t e a=>∃b d,∃c:(List ByteArray)×Int,∃f g,e=(3,.slice f c.1.length g)::(4,vi c.2)::(5,vi d)::t/\Stp [2] u A b a/\Oc Ep.str 9 b a 2 f g c.1/\0<=d/\FV ((p0.size:Int)-d)=i/\cntM (lc p0) i d c=some z) ⟨_,_,⟨u,0,((([]:List ByteArray):(List ByteArray)),(0:Int)),G,Z,R,Jo3,O,(by decide),(by simp),T⟩,(KM R)⟩ ?_) ?_)
 rintro i _ aa ⟨k,d,c,f,g,rfl,_,x,y,q,h⟩
 rcases i with _|i
 exact Jq<|Jl3 2 R<|Jf R (nr U9 R R)<|Jb 1 R<|Jx2 R (dcf q)<|Jc1<|Jt<|Jt<|Jb1<|Oh h<|Jw1 _ ⟨k,(c.1,c.2),f,g,R,Fct,x,R⟩<|KM R
 refine Ob h λo5 h v=>Jq<|Jl3 2 R<|Jf R (nr U9 R R)<|Jb 1 R<|Jw2 R (dct q)<|Js<|Jp<|Jq<|Jv<|Jl3 2 R<|Ob h λae W h=>Jf R (lj U9 W R R R)<|Jb 1 R<|Ob h λj h P=>Jt3 [0,5] (λt e a=>∃b o n,e=(3,.slice o j.1.length n)::(4,vi j.2)::t/\Stp [2] k aa b a/\Oc Ep.str 9 b a 2 o n j.1) ?_ ?_
 exact Bk h (λV h=>Jy R<|Js<|Oh h<|Jw1 _ ⟨k,f,g,R,Jo3,x⟩<|KM R) (λV h=>Jx R<|Jl3 4 R<|Ob h λB X h=>Jf R (zl (k1:= .i64) (k2:= .i64) U9 (.inr ⟨_,R,R⟩) (.inr ⟨_,R,R⟩) X R R)<|Jb4 k Ep.str 3 [] (parts:=[(0,.tmp 21)]) (cells:=[.string B]) (xs:=([B]:List ByteArray)) R Y33 dx R (Jj4 R) λab ac _ D _ M=>Tv<|Ob h λ_ Y h=>Jd4 D Ep.str 2 [] R Y33 dx R Fct (Sl.srcP ug M.rdc) bU Y R λH I _ E _ N=>Tv<|Jb 1 R<|Jg3 R<|Oh h<|Jw1 _ ⟨E,H,I,R,Fct,N⟩<|KM R)
 rintro _ _ ⟨C,o,n,rfl,_,L⟩
 exact have h:=P;Jz (Jp<|Jg3 R<|wr2 y q S ▸ (Ou h v (λv=>Ja2 ⟨C,d+1,(j.1,j.2),o,n,R,Fct,L,nxz y,nxm q,v⟩ R)))
 rintro _ _ ⟨F,s,p,m,rfl,_,K,rfl⟩
 exact have h:=yI Q;Jp (Jf3 R<|Ju<|Jb2 (l:=[.tmp 2]) results8 (Jq2 R R) R<|Oh h<|⟨F,p,m,R,Fct,K⟩)
theorem xR {p0:Int}  {r:ByteArray}(h:j6 p0=some r):Ret prog 10 [vi p0] w (λK b=>∃c,K= .string r/\Ent J w c b):=by
 refine Jp3 J func10 R ntmps10 R λQ=>Jf3 R<|Jf3 R<|Jf3 R<|Jq<|Jf3 R<|Ob h λj h v=>Jt3 [3] (λe d b=>∃c,d=(0,vi j.1)::(4,.bool j.2)::e/\Stp [] J w c b) ?_ ?_
 exact Bk h (λE h=>Jy R<|Js<|Oh h<|Jw1 _ ⟨J,R,Jo3⟩<|KM R) (λE h=>Jx R<|Ji3 [2,2,2] 1 R<|Jf R (BZ R R)<|Jc 1 R<|Oh h<|Jw1 _ ⟨J,R,Jo3⟩<|KM R)
 rintro _ p ⟨i,rfl,_⟩
 refine Jp<|Jq<|Ob v λo A z=>Jt3 [4] (λe d b=>∃c,∃k:Int×ByteArray,d=(3,.string k.2)::e/\Stp [] i p c b/\o=FX k) (Jv<|Ju3 [4] (λf e d b=>∃c,∃a:Int×ByteArray,d=(0,vi a.1)::(3,.string a.2)::e/\Stp [] i p c b/\ci sn f a=some o) ⟨_,_,⟨i,(j.1,((ByteArray.mk #[]):ByteArray)),R,Jo3,A⟩,(KM R)⟩ ?_) ?_
 rintro f _ L ⟨q,a,rfl,_,h⟩
 rcases f with _|f
 cases h
 refine Ob h λ_ h n=>Jq<|Jh3 [2,2,2,2,2,2] 1 R<|Jf R (cR R R R)<|Jn 1 R<|Ob h λH h x=>Jk4 [0,3,4] 15 H q L 3 tv ?_ ?_
 exact Bk h (λB h=>Jn 3 R<|Oh h<|Jl4 tv R) (λB h=>Jn 3 R<|Oh h<|Jl4 tv R)
 rintro _ _ _ ⟨rfl,m,_⟩
 refine have h:=x;Jd ?_
 refine Bk h (λC h=>Jy R<|Jc1<|Jt<|Jt ?_) (λC h=>Jx R<|Js<|Jp<|Jv<|Jh3 [2,2,2,2,1,1,2,2,2] 1 R<|Jf R (rT R R R<|show ¬(10:Int)=0 by decide) (Jn 1 R<|Jf R (Ji2 U2 U5 R R)<|Jb4 m (Ep.int .u8) 2 [] (parts:=[(0,.tmp 19)]) (cells:=[.int .u8 (FW .u8<|FW .i64 (48+(Int.tmod a.1 10)))]) (xs:=([(FW .u8<|FW .i64 (48+(Int.tmod a.1 10)))]:VI)) R Y22 vg R (Jj4 R) λP O _ s _ u=>Tv<|Jg4 tv R (BV Y22 underlying5 underlying9 R (svE u.rdc) R R)<|Jn 1 R<|Ob h λN F h=>Jf R (dg R R R F)<|Jb 1 R<|Ji3 [2,2,2] 1 R<|Jf R (B5 R R R<|show ¬(10:Int)=0 by decide) (Jc 1 R<|Jz ?_)))
 cases h
 exact have h:=n;Jb1 (Oh h<|Jw1 _ ⟨m,(a.1,a.2),R,Fct,R⟩<|KM R)
 cases h
 exact Ja2 ⟨s,(((FW .i64<|Int.tdiv a.1 10):Int),N),R,Fct,n⟩ R
 rintro _ M ⟨g,k,rfl,_,rfl⟩
 refine have h:=yI z;Jp (Jq<|Jf3 R<|Ob h λI h y=>Jx1 (λd b=>∃c,d=[(3,.string I)]/\Stp [] g M c b) ?_ ?_)
 exact Bk h (λD h=>Jy R<|Js<|Oh h<|Jw1 _ ⟨g,R,Jo3⟩<|KM R) (λD h=>Jx R<|Ji3 [2,2,2] 1 R<|Ob h λ_ G h=>Jf R (dg R R R G)<|Jc 1 R<|Oh h<|Jw1 _ ⟨g,R,Jo3⟩<|KM R)
 rintro _ _ ⟨t,rfl,_⟩
 exact have h:=y;Jp (Jf3 R<|Ju<|Jb2 (l:=[.tmp 2]) results10 (Jq2 R R) R<|Oh h<|⟨t,R,Fct⟩)
theorem lu {k q}{p0:VI}{p1:Int}(g:Rd Ri J w 0 k q p0){r:Bool}(h:kJ p0 p1=some r):Ret prog 96 [.slice k p0.length q,vi p1] w (Pvb J w r):=by
 refine Jp3 J func96 R ntmps96 R λy=>Jf3 R<|Jq<|Jf3 R<|Ob h λp v m=>Jx1 (λf i=>∃j,f=[]/\Stp [] J w j i/\p=FX ()) (Jv<|Ju3 [0,1] (λc s f i=>∃j b,f=(5,vi b)::s/\Stp [] J w j i/\0<=b/\FV ((p0.length:Int)-b)=c/\cntM (nH p0 p1) c b ()=some p) ⟨_,_,⟨J,0,R,Jo3,(by decide),(by simp),v⟩,(KM R)⟩ ?_) ?_
 rintro c _ _ ⟨e,b,rfl,u,n,d,h⟩
 rcases c with _|c
 exact Jq<|Jl3 2 R<|Js3 R U30 R R<|Jb 1 R<|Jx2 R (dcf d)<|Jc1<|Jt<|Jt<|Jb1<|Oh h<|Jw1 _ ⟨e,R,Fct,R⟩ KN
 refine Ob h λz h a=>Jq<|Jl3 2 R<|Js3 R U30 R R<|Jb 1 R<|Jw2 R (dct d)<|Js<|Jp<|Jq<|Jv<|Jl3 2 R<|Ob h λA o h=>Jd3 R g o U30 Z2<|Jc3 R I2 ((g.stp u).gInt o)<|Jb 2 R ?_
 exact Bk h (λx h=>Jy R<|Js<|Jz<|Jp<|Jg3 R<|wr2 n d g.len_le ▸ (Ou h a (λa=>Ja2 ⟨e,b+1,R,Fct,nxz n,nxm d,a⟩ R))) (λx h=>Jx R<|Jf3 R<|Ju<|Ja1<|Jw<|Jw<|Ou h a (λa=>Ov a m (λh=>Ja1<|Jr2<|Jw<|Jb2 (l:=[.tmp 4]) results96 (Jq2 R R) R<|Oh h<|⟨e,R,Fct⟩)))
 rintro _ _ ⟨t,rfl,_,rfl⟩
 exact have h:=yI m;Jp (Jf3 R<|Ju<|Jb2 (l:=[.tmp 4]) results96 (Jq2 R R) R<|Oh h<|⟨t,R,Fct⟩)
theorem nI {p0:Int}{p1:Int}  {r:Int}(h:kK p0 p1=some r):Ret prog 147 [vi p0,vi p1] w (Pvi J w r):=by
 unfold kK at h
 refine Jp3 J func147 R ntmps147 R λa=>Jf3 R<|Jq<|Jf3 R ?_
 exact Bk h (λb h=>Jy R<|Js<|Jp<|Jf3 R<|Ju<|Jb2 (l:=[.tmp 4]) results147 (Jq2 R R) R<|Oh h<|⟨J,R,a⟩) (λb h=>Jx R<|Jf3 R<|Ju<|Jw<|Jb2 (l:=[.tmp 4]) results147 (Jq2 R R) R<|Oh h<|⟨J,R,a⟩)
theorem va {n z}{p0:VV}{p1:Int}{p2:Int}(g:Rd Rs J w 0 n z p0){r:Int}(h:nN p0 p1 p2=some r):Ret prog 145 [.slice n p0.length z,vi p1,vi p2] w (Pvi J w r):=by
 refine Jp3 J func145 R ntmps145 R λM=>Jf3 R<|Jq<|Jf3 R<|Ob h λy G q=>Jx1 (λe i=>∃j,e=[]/\Stp [] J w j i/\y=FX ()) (Jv<|Ju3 [0,1,2] (λc A e i=>∃j b,e=(7,vi b)::A/\Stp [] J w j i/\0<=b/\FV ((p0.length:Int)-b)=c/\cntM (jX p0 p1 p2) c b ()=some y) ⟨_,_,⟨J,0,R,Jo3,(by decide),(by simp),G⟩,(KM R)⟩ ?_) ?_
 rintro c _ L ⟨m,b,rfl,C,s,d,h⟩
 rcases c with _|c
 exact Jq<|Jl3 2 R<|Js3 R U51 R R<|Jb 1 R<|Jx2 R (dcf d)<|Jc1<|Jt<|Jt<|Jb1<|Oh h<|Jw1 _ ⟨m,R,Fct,R⟩ KN
 refine Ob h λN h a=>Jq<|Jl3 2 R<|Js3 R U51 R R<|Jb 1 R<|Jw2 R (dct d)<|Js<|Jp<|Jq<|Jv<|Jl3 2 R<|Ob h λ_ t h=>Jd3 R g t U51 Z30 ?_
 have f:=g.stp C
 obtain⟨_,_,o,E⟩:=f.gSl t
 refine Jc3 R I30 E<|Ob h λO u h=>Jd3 R o u U30 Z2<|Jc3 R I2 (o.gInt u)<|Jn 3 R<|Ob h λK h D=>Jk4 [0,1,2,7] 31 K m L 9 tv ?_ ?_
 refine Bk h (λH h=>Jn 3 R<|Je4 R<|Jn 1 R<|Je4 R<|Jn 3 R<|Oh h<|Jl4 tv R) (λH h=>Jn 2 R<|Ob h λ_ v h=>Jd3 R f v U51 Z30 ?_)
 obtain⟨_,_,p,F⟩:=f.gSl v
 exact Jc3 R I30 F<|Ob h λ_ x h=>Jd3 R p x U30 Z2<|Jc3 R I2 (p.gInt x)<|Jn 3 R<|Oh h<|Jl4 tv R
 rintro _ _ _ ⟨rfl,k,_⟩
 refine have h:=D;Jd ?_
 exact Bk h (λI h=>Jy R<|Js<|Jz<|Jp<|Jg3 R<|wr2 s d g.len_le ▸ (Ou h a (λa=>Ja2 ⟨k,b+1,R,Fct,nxz s,nxm d,a⟩ R))) (λI h=>Jx R<|Jf3 R<|Ju<|Ja1<|Jw<|Jw<|Ou h a (λa=>Ov a q (λh=>Ja1<|Jr2<|Jw<|Jb2 (l:=[.tmp 6]) results145 (Jq2 R R) R<|Oh h<|⟨k,R,Fct⟩)))
 rintro _ _ ⟨B,rfl,_,rfl⟩
 exact have h:=yI q;Jp (Jf3 R<|Ju<|Jb2 (l:=[.tmp 6]) results145 (Jq2 R R) R<|Oh h<|⟨B,R,Fct⟩)
theorem rY {n x}{p0:VI}{o y}{p1:VI}(g:Rd Ri J w 0 n x p0) (p:Rd Ri J w 0 o y p1){r:Bool}(h:jS p0 p1=some r):Ret prog 213 [.slice n p0.length x,.slice o p1.length y] w (Pvb J w r):=by
 refine Jp3 J func213 R ntmps213 R λB=>Jf3 R<|Jq<|Jl3 1 R<|Js3 R U30 R R<|Jn 1 R<|Js3 R U30 R R<|Jb 1 R ?_
 refine Bk h (λD h=>Jy R<|Js<|Jp<|Jq<|Jf3 R<|Ob h λv C q=>Jx1 (λf i=>∃j,f=[]/\Stp [] J w j i/\v=FX ()) (Jv<|Ju3 [0,1] (λc z f i=>∃j b,f=(5,vi b)::z/\Stp [] J w j i/\0<=b/\FV ((p0.length:Int)-b)=c/\cntM (gW p0 p1) c b ()=some v) ⟨_,_,⟨J,0,R,Jo3,(by decide),(by simp),C⟩,(KM R)⟩ ?_) ?_) (λD h=>Jx R<|Jf3 R<|Ju<|Jw<|Jb2 (l:=[.tmp 4]) results213 (Jq2 R R) R<|Oh h<|⟨J,R,B⟩)
 rintro c _ _ ⟨d,b,rfl,k,s,e,h⟩
 rcases c with _|c
 exact Jq<|Jl3 2 R<|Js3 R U30 R R<|Jb 1 R<|Jx2 R (dcf e)<|Jc1<|Jt<|Jt<|Jb1<|Oh h<|Jw1 _ ⟨d,R,Fct,R⟩ KN
 refine Ob h λF h a=>Jq<|Jl3 2 R<|Js3 R U30 R R<|Jb 1 R<|Jw2 R (dct e)<|Js<|Jp<|Jq<|Jv<|Jq<|Xn d [0] [2,5,8,14,17,20,9,21,26] λ_ m=>Jn 2 R<|Ob h λG t h=>Jd3 R g t U30 Z2<|Jn 2 R<|Ob h λH u h=>Jd3 R p u U30 Z2<|Jg R (Jd2 I2 R R<|hvC ((g.stp<|k.tr m).gInt t) R)<|Jg R (Jd2 I2 R R<|hvC ((p.stp<|k.tr m).gInt u) R)<|Jn 1 R<|Jt1<|Jd ?_
 exact Bk h (λE h=>Jy R<|Js<|Jz<|Jp<|Jg3 R<|wr2 s e g.len_le ▸ (Ou h a (λa=>Ja2 ⟨d,b+1,R,Fct,nxz s,nxm e,a⟩ R))) (λE h=>Jx R<|Jf3 R<|Ju<|Ja1<|Jw<|Jw<|Ou h a (λa=>Ov a q (λh=>Ja1<|Jr2<|Jw<|Jb2 (l:=[.tmp 4]) results213 (Jq2 R R) R<|Oh h<|⟨d,R,Fct⟩)))
 rintro _ _ ⟨A,rfl,_,rfl⟩
 exact have h:=yI q;Jp (Jf3 R<|Ju<|Jb2 (l:=[.tmp 4]) results213 (Jq2 R R) R<|Oh h<|⟨A,R,Fct⟩)
theorem A0 {o q p m k n}{p0:Parity}(cN:Rd Ri J w 0 o q p0.Arena.Owner) (bd:Rd Rs J w 0 p m p0.Arena.Next) (cr:Rd Ri J w 0 k n p0.Prio){r:l7Game}(h:r6 p0=some r):Ret prog 158 [.agg #[.slice o p0.Arena.Owner.length q,.slice p p0.Arena.Next.length m,.slice k p0.Prio.length n]] w (λcK a=>∃b bn bs bo bt bp bu bq bv br bw,cK= .agg #[.slice bn r.owner.length bs,.slice bo r.prio.length bt,.slice bp r.next.length bu,.slice bq r.prev.length bv,.slice br r.pick.length bw]/\Ent J w b a/\Rd Ri b a 0 bn bs r.owner/\Rd Ri b a 0 bo bt r.prio/\Rd Rs b a 0 bp bu r.next/\Oc (FU E6 2) 30 b a 5 bq bv r.prev/\Oc E6 2 b a 6 br bw r.pick):=by
 refine Jp3 J func158 R ntmps158 R λcO=>Jj3<|Jx3 J 2 R λ_ _ bG b0 cp=>Tv<|Jy3 bG 3 R X177 R λ_ cM Q a0 _=>Tv<|Jd<|Jj3<|Je3 R U55 R Z30 (have aD:=cp.stp a0;Jc3 R I30 (aD.ld 2 R R) (Js3 R U30 R R<|Jb 1 R<|Jq<|Ob h λc S h=>Ob h λd T h=>Jt3 [1,2,3] (λe t a=>∃b s ac ae af ad ag ab B C K L,t=(4,.pointer (some ⟨s,0,none⟩))::e/\Stp [4,5,6] Q cM b a/\Rd Ri b a 0 ac ae ((⟨p0.Arena.Owner,p0.Prio,p0.Arena.Next,c,d⟩:l7Game).owner)/\Rd Ri b a 0 af ad ((⟨p0.Arena.Owner,p0.Prio,p0.Arena.Next,c,d⟩:l7Game).prio)/\Rd Rs b a 0 ag ab ((⟨p0.Arena.Owner,p0.Prio,p0.Arena.Next,c,d⟩:l7Game).next)/\Oc (FU E6 2) 30 b a 4 B C ((⟨p0.Arena.Owner,p0.Prio,p0.Arena.Next,c,d⟩:l7Game).prev)/\Oc E6 2 b a 5 K L ((⟨p0.Arena.Owner,p0.Prio,p0.Arena.Next,c,d⟩:l7Game).pick)/\Bc b a 6 s 177 [.slice ac ((⟨p0.Arena.Owner,p0.Prio,p0.Arena.Next,c,d⟩:l7Game).owner).length ae,.slice af ((⟨p0.Arena.Owner,p0.Prio,p0.Arena.Next,c,d⟩:l7Game).prio).length ad,.slice ag ((⟨p0.Arena.Owner,p0.Prio,p0.Arena.Next,c,d⟩:l7Game).next).length ab,.slice B ((⟨p0.Arena.Owner,p0.Prio,p0.Arena.Next,c,d⟩:l7Game).prev).length C,.slice K ((⟨p0.Arena.Owner,p0.Prio,p0.Arena.Next,c,d⟩:l7Game).pick).length L]) (WC.rxt (J:=Q) [2] none (by kernel_rfl) λ_ I=>Jq1 (fuel:=5) [(0,2),(1,2),(3,2),(5,2),(6,2),(8,2),(10,2),(2,0),(4,0),(7,0)] (by kernel_rfl) (by kernel_rfl) R<|Je3 R U55 R Z53<|Je3 R U53 R Z30<|Je3 R U55 R Z30<|Je3 R U55 R Z53<|Je3 R U53 R Z51<|Jn 2 R (have aC:=aD.stp I;Jg R (Jd2 I30 R R<|hvC (aC.ld 0 R R) R) (Jg R (Jd2 I30 R R<|hvC (aC.ld 2 R R) R)<|Jg R (Jd2 I51 R R<|hvC (aC.ld 1 R R) R)<|Jp1<|WA.fork3 (fuel:=4) 9 11 13 (by kernel_rfl) R (Jl1 (J:=Q) (E:=(FU E6 2)) (z:=([]:VI)) 4 R R R R R R R Y51 bY R R R R R (λ_ _ _=>⟨none,0,R,Ow.nil⟩) (Jv2 S) λi j _ aM F _=>⟨(F.cl R),Jp1<|WA.fork2 (fuel:=3) 11 13 (by kernel_rfl) R (Jl1 (J:=aM) (E:=E6) (z:=(0:Int)) 5 R R R R R R R Y30 bS R R R R R (λ_ _ _=>R) (Jv2 T) λf g _ bP av _=>⟨((F.tr av).cl R),Xs 0 [38,40,43]<|Jf R (Jn4 [.slice o p0.Arena.Owner.length q,.slice k p0.Prio.length n,.slice p p0.Arena.Next.length m,.slice i c.length j,.slice f d.length g] R)<|Jy3 bP 6 R X177 R λs _ aN aY cn=>⟨((T3 F av aY).cl R),Jm4 aN 6 R Z177 R cn R λ_ b1 co=>⟨((T4 F av aY b1).cl R),Xe<|Jo<|Jw1 _ ⟨aN,s,o,q,k,n,p,m,i,j,f,g,R,Fct,Fct,Fct,Fct,Fct,Fct,co⟩<|KM R⟩⟩⟩)<|Jy3 aM 5 R X177 R λs _ bQ Y _=>⟨((F.tr Y).cl R),Xs 0 [34,38,43]<|Jl1 (J:=bQ) (E:=E6) (z:=(0:Int)) 6 R R R R R R R Y30 bS R R R R R (λ_ _ _=>R) (Jv2 T) λf g _ aO aw _=>⟨((T3 F Y aw).cl R),Jf R (Jn4 [.slice o p0.Arena.Owner.length q,.slice k p0.Prio.length n,.slice p p0.Arena.Next.length m,.slice i c.length j,.slice f d.length g] R)<|Jm4 aO 5 R Z177 R Fct R λ_ aZ _=>⟨((T4 F Y aw aZ).cl R),Xe<|Jo<|Jw1 _ ⟨(λu=>ren [(6,5),(5,6)]<|aO u),s,o,q,k,n,p,m,i,j,f,g,R,(Jz2 ((T5 I F Y aw aZ).wk R) [(6,5),(5,6)] R),Fct,Fct,Fct,Fct,Fct,Fct⟩<|KM R⟩⟩⟩⟩) (Jl1 (J:=Q) (E:=E6) (z:=(0:Int)) 4 R R R R R R R Y30 bS R R R R R (λ_ _ _=>R) (Jv2 T) λf g _ aP y _=>⟨(y.cl R),Jp1<|WA.fork2 (fuel:=3) 9 13 (by kernel_rfl) R (Jl1 (J:=aP) (E:=(FU E6 2)) (z:=([]:VI)) 5 R R R R R R R Y51 bY R R R R R (λ_ _ _=>⟨none,0,R,Ow.nil⟩) (Jv2 S) λi j _ bR Z _=>⟨((y.tr Z).cl R),Xs 0 [38,40,43]<|Jf R (Jn4 [.slice o p0.Arena.Owner.length q,.slice k p0.Prio.length n,.slice p p0.Arena.Next.length m,.slice i c.length j,.slice f d.length g] R)<|Jy3 bR 6 R X177 R λs _ aQ ax cq=>⟨((T3 y Z ax).cl R),Jm4 aQ 6 R Z177 R cq R λ_ a1 _=>⟨((T4 y Z ax a1).cl R),Xe<|Jo<|Jw1 _ ⟨(λu=>ren [(5,4),(4,5)]<|aQ u),s,o,q,k,n,p,m,i,j,f,g,R,(Jz2 ((T5 I y Z ax a1).wk R) [(5,4),(4,5)] R),Fct,Fct,Fct,Fct,Fct,Fct⟩<|KM R⟩⟩⟩)<|Jy3 aP 5 R X177 R λs _ bT aa _=>⟨((y.tr aa).cl R),Xs 0 [28,38,43]<|Jl1 (J:=bT) (E:=(FU E6 2)) (z:=([]:VI)) 6 R R R R R R R Y51 bY R R R R R (λ_ _ _=>⟨none,0,R,Ow.nil⟩) (Jv2 S) λi j _ aR ay _=>⟨((T3 y aa ay).cl R),Jf R (Jn4 [.slice o p0.Arena.Owner.length q,.slice k p0.Prio.length n,.slice p p0.Arena.Next.length m,.slice i c.length j,.slice f d.length g] R)<|Jm4 aR 5 R Z177 R Fct R λ_ a2 _=>⟨((T4 y aa ay a2).cl R),Xe<|Jo<|Jw1 _ ⟨(λu=>ren [(6,4),(4,5),(5,6)]<|aR u),s,o,q,k,n,p,m,i,j,f,g,R,(Jz2 ((T5 I y aa ay a2).wk R) [(6,4),(4,5),(5,6)] R),Fct,Fct,Fct,Fct,Fct,Fct⟩<|KM R⟩⟩⟩⟩)<|Jy3 Q 4 R X177 R λs _ aS A _=>⟨(A.cl R),Jp1<|WA.fork2 (fuel:=3) 9 11 (by kernel_rfl) R (Jl1 (J:=aS) (E:=(FU E6 2)) (z:=([]:VI)) 5 R R R R R R R Y51 bY R R R R R (λ_ _ _=>⟨none,0,R,Ow.nil⟩) (Jv2 S) λi j _ bB W _=>⟨((A.tr W).cl R),Xs 0 [34,38,43]<|Jl1 (J:=bB) (E:=E6) (z:=(0:Int)) 6 R R R R R R R Y30 bS R R R R R (λ_ _ _=>R) (Jv2 T) λf g _ aI an _=>⟨((T3 A W an).cl R),Jf R (Jn4 [.slice o p0.Arena.Owner.length q,.slice k p0.Prio.length n,.slice p p0.Arena.Next.length m,.slice i c.length j,.slice f d.length g] R)<|Jm4 aI 4 R Z177 R Fct R λ_ aT _=>⟨((T4 A W an aT).cl R),Xe<|Jo<|Jw1 _ ⟨(λu=>ren [(5,4),(6,5),(4,6)]<|aI u),s,o,q,k,n,p,m,i,j,f,g,R,(Jz2 ((T5 I A W an aT).wk R) [(5,4),(6,5),(4,6)] R),Fct,Fct,Fct,Fct,Fct,Fct⟩<|KM R⟩⟩⟩)<|Jl1 (J:=aS) (E:=E6) (z:=(0:Int)) 5 R R R R R R R Y30 bS R R R R R (λ_ _ _=>R) (Jv2 T) λf g _ bC X _=>⟨((A.tr X).cl R),Xs 0 [28,38,43]<|Jl1 (J:=bC) (E:=(FU E6 2)) (z:=([]:VI)) 6 R R R R R R R Y51 bY R R R R R (λ_ _ _=>⟨none,0,R,Ow.nil⟩) (Jv2 S) λi j _ aJ ao _=>⟨((T3 A X ao).cl R),Jf R (Jn4 [.slice o p0.Arena.Owner.length q,.slice k p0.Prio.length n,.slice p p0.Arena.Next.length m,.slice i c.length j,.slice f d.length g] R)<|Jm4 aJ 4 R Z177 R Fct R λ_ aV _=>⟨((T4 A X ao aV).cl R),Xe<|Jo<|Jw1 _ ⟨(λu=>ren [(6,4),(4,6)]<|aJ u),s,o,q,k,n,p,m,i,j,f,g,R,(Jz2 ((T5 I A X ao aV).wk R) [(6,4),(4,6)] R),Fct,Fct,Fct,Fct,Fct,Fct⟩<|KM R⟩⟩⟩⟩))) ?_))
 rintro _ bx ⟨al,s,ac,ae,af,ad,ag,ab,B,C,K,L,rfl,aU,_,_,_,b6,b7,a8⟩
 refine Jp<|Jq<|Jf3 R<|Ob h λbl cF cs=>Jt3 [2,4] (λe t a=>∃b,∃N:VV×VI,t=e/\Stp [4,5,8] al bx b a/\Oc (FU E6 2) 30 b a 4 B C N.1/\((⟨p0.Arena.Owner,p0.Prio,p0.Arena.Next,c,d⟩:l7Game).prev).length=N.1.length/\Oc E6 2 b a 5 K L N.2/\((⟨p0.Arena.Owner,p0.Prio,p0.Arena.Next,c,d⟩:l7Game).pick).length=N.2.length/\bl=FX N) (Jv<|Ju3 [1,2,3,4] (λx e t a=>∃b v,∃D:VV×VI,t=(5,vi v)::e/\Stp [4,5,8] al bx b a/\Oc (FU E6 2) 30 b a 4 B C D.1/\((⟨p0.Arena.Owner,p0.Prio,p0.Arena.Next,c,d⟩:l7Game).prev).length=D.1.length/\Oc E6 2 b a 5 K L D.2/\((⟨p0.Arena.Owner,p0.Prio,p0.Arena.Next,c,d⟩:l7Game).pick).length=D.2.length/\0<=v/\FV ((p0.Prio.length:Int)-v)=x/\cntM (pC p0) x v D=some bl) ⟨_,_,⟨al,0,(((⟨p0.Arena.Owner,p0.Prio,p0.Arena.Next,c,d⟩:l7Game).prev:VV),((⟨p0.Arena.Owner,p0.Prio,p0.Arena.Next,c,d⟩:l7Game).pick:VI)),R,Jo3,b6,R,b7,R,(by decide),(by simp),cF⟩,(KM R)⟩ ?_) ?_
 rintro x _ _ ⟨aL,v,D,rfl,ap,b4,bg,az,aF,cu,be,h⟩
 rcases x with _|x
 exact Jq<|Jf3 R<|Jx2 R (dcf be)<|Jc1<|Jt<|Jt<|Jb1<|Oh h<|Jw1 _ ⟨aL,(D.1,D.2),R,Fct,b4,bg,az,aF,R⟩<|KM R
 refine Ob h λcP h aE=>have aj:=dct be;Jq (Jf3 R<|Jw2 R aj<|Js<|Jp<|Jq<|Jv<|Jj3<|Je3 R U177 R Z30 (have a5:=a8.stp ap;Jc3 R I30 (a5.ld 4 R R) (Jn 1 R<|Ob h λ_ cJ h=>Jf R (Jg2 az.rdc cJ U30 Z2 R R aF R) (Ob h λbA bk h=>Jk1 (J:=aL) (E:=E6) 5 [] R R R R R R R R Z2 R R R R az bk λbz am aq _=>Tv<|have cz:((⟨p0.Arena.Owner,p0.Prio,p0.Arena.Next,c,d⟩:l7Game).pick).length=bA.length:=aF.trans (Ju2 bk).2.2.2.symm;Jd (Jf3 R<|Ob h λbm cG ct=>Jt3 [1,2,3,4,5] (λe t a=>∃b,∃V:Int×VV,t=e/\Stp [4,8] am bz b a/\Oc (FU E6 2) 30 b a 4 B C V.2/\((⟨p0.Arena.Owner,p0.Prio,p0.Arena.Next,c,d⟩:l7Game).prev).length=V.2.length/\bm=FX V) (Jv<|Ju3 [1,2,3,4,5] (λx e t a=>∃b,∃H:Int×VV,t=(6,vi H.1)::e/\Stp [4,8] am bz b a/\Oc (FU E6 2) 30 b a 4 B C H.2/\((⟨p0.Arena.Owner,p0.Prio,p0.Arena.Next,c,d⟩:l7Game).prev).length=H.2.length/\ci (pD p0 v) x H=some bm) ⟨_,_,⟨am,((0:Int),D.1),R,Jo3,Fct,bg,cG⟩,(KM R)⟩ ?_) ?_)))))
 rintro x _ cL ⟨P,H,rfl,ar,aA,G,h⟩
 rcases x with _|x
 cases h
 refine Ob h λ_ h bf=>Jq<|Jl3 1 R<|Je3 R U55 R Z53<|Je3 R U53 R Z51 (have a6:=aD.stp (T4 aU ap aq ar);Jc3 R I51 (a6.ld 1 R R) (Jn 1 R<|Ob h λcQ bh h=>Jd3 R bd bh U51 Z30 ?_))
 have aB:=bd.stp (T6 b0 a0 aU ap aq ar)
 obtain⟨_,_,_,cv⟩:=aB.gSl bh
 refine Jc3 R I30 cv<|Js3 R U30 R R<|Jb 1 R ?_
 refine Bk h (λcH h=>Jy R<|Jc1<|Jt<|Jt ?_) (λcH h=>Jx R<|Js<|Jp<|Jq<|Jv<|Jj3<|Je3 R U55 R Z53<|Je3 R U53 R Z51<|Jc3 R I51 (a6.ld 1 R R)<|Jn 1 R<|Ob h λ_ bi h=>Jd3 R aB bi U51 Z30 ?_)
 cases h
 exact have h:=bf;Jb1 (Oh h<|Jw1 _ ⟨P,(H.1,H.2),R,Fct,aA,G,R⟩<|KM R)
 obtain⟨_,_,a7,cw⟩:=aB.gSl bi
 refine Jc3 R I30 cw<|Jn 1 R<|Ob h λ_ bj h=>Jd3 R a7 bj U30 Z2<|Jc3 R I2 (a7.gInt bj)<|Jb 1 R<|Ob h λ_ U h=>Ob h λ_ aG h=>Ob h λ_ aH h=>Ob h λO M h=>Jt3 [1,2,3,4,5,6] (λe t a=>∃b,t=e/\Stp [4,8] P cL b a/\Oc (FU E6 2) 30 b a 4 B C O/\((⟨p0.Arena.Owner,p0.Prio,p0.Arena.Next,c,d⟩:l7Game).prev).length=O.length) (WC.rxt (J:=P) [0,4,6] (some 10) (by kernel_rfl) λ_ aW=>Jq1 (fuel:=5) [(0,2),(2,2),(3,2),(5,2),(8,2),(4,0),(6,2),(7,0)] (by kernel_rfl) (by kernel_rfl) R<|Je3 R U177 R Z51<|Jn 1 R<|Je3 R U177 R Z51<|Jn 2 R (have ah:=a5.stp (T3 aq ar aW);Jg R (Jd2 I51 R R<|hvC (ah.ld 3 R R) R) (Jf R (Jg2 aA.rdc U U51 Z30 R R G R) ?_))) ?_
 have ai:=aA.stp aW
 obtain⟨_,_,_,ak⟩:=ai.rdc.gSl U
 refine Jg R (Jd2 I30 R R<|hvC ak R)<|Jp1<|WA.fork2 (fuel:=4) 1 9 (by kernel_rfl) R (Jg4 (Cl.refl _ _ _) R (Jd2 I51 R R<|hvE<|ah.ld 3 R R)<|Xs 3 [28]<|Ji4 P 7 [v] R Y30 bS R λb2 b3 _ _ au b9=>⟨(au.cl R),Jp1<|WA.brk (fuel:=2) 10 (by kernel_rfl) R (by kernel_rfl) ?_⟩)<|Ji4 P 7 [v] R Y30 bS R λb2 b3 _ _ E ba=>⟨(E.cl R),Jp1<|WA.forkB2r (fuel:=3) 1 10 (by kernel_rfl) R (by kernel_rfl) (Jg4 (E.cl R) R (Jd2 I51 R R<|hvE ((ah.stp E).ld 3 R R))<|Jp1<|WA.brk (fuel:=2) 10 (by kernel_rfl) R (by kernel_rfl) ?_) ?_⟩
 have a9:=ai.stp au
 obtain⟨bF,bW,ca,_⟩:=a9.borrow U (ak _ (Stp.ag au R)) 8 R R
 exact Jd4 bF E6 8 [] R Y30 bS R ca (Sl.srcP (cd _) (b9.stp bW).rdc) bU aG R λa4 a3 _ bH _ cb=>Tv<|Xs 0 [35,37]<|Jf R (Jg2 a9.rdc aH U51 Z30 R R G R) (WO.stH (J:=bH) (E:=(FU E6 2)) 4 [8] R R R R R R R R Z30 R ⟨_,_,R,cb⟩ R R Fct M λ_ bI _ ce=>Tv<|have cC:((⟨p0.Arena.Owner,p0.Prio,p0.Arena.Next,c,d⟩:l7Game).prev).length=O.length:=G.trans (Ju2 M).2.2.2.symm;Xe (Jo<|Jw1 _ ⟨bI,R,Fct,ce,cC⟩<|KM R))
 have bb:=ai.stp E
 obtain⟨bJ,bX,cf,_⟩:=bb.borrow U (ak _ (Stp.ag E R)) 8 R R
 exact Jd4 bJ E6 8 [] R Y30 bS R cf (Sl.srcP (cd _) (ba.stp bX).rdc) bU aG R λa4 a3 _ bK _ cg=>Tv<|Xs 0 [35,37]<|Jf R (Jg2 bb.rdc aH U51 Z30 R R G R) (WO.stH (J:=bK) (E:=(FU E6 2)) 4 [8] R R R R R R R R Z30 R ⟨_,_,R,cg⟩ R R Fct M λ_ bL _ ch=>Tv<|have cD:((⟨p0.Arena.Owner,p0.Prio,p0.Arena.Next,c,d⟩:l7Game).prev).length=O.length:=G.trans (Ju2 M).2.2.2.symm;Xe (Jo<|Jw1 _ ⟨bL,R,Fct,ch,cD⟩<|KM R))
 have bc:=ai.stp E
 obtain⟨bM,aX,cj,_⟩:=bc.borrow U (ak _ (Stp.ag E R)) 8 R R
 exact Jd4 bM E6 8 [] R Y30 bS R cj (Sl.srcP (cd _) (ba.stp aX).rdc) bU aG R λa4 a3 _ bN bZ ck=>Tv<|Xs 0 [4,35,37]<|Jc3 R I51 ((ah.stp<|T3 E aX bZ).ld 3 R R)<|Jf R (Jg2 bc.rdc aH U51 Z30 R R G R) (WO.stH (J:=bN) (E:=(FU E6 2)) 4 [8] R R R R R R R R Z30 R ⟨_,_,R,ck⟩ R R Fct M λ_ bO _ cl=>Tv<|have cE:((⟨p0.Arena.Owner,p0.Prio,p0.Arena.Next,c,d⟩:l7Game).prev).length=O.length:=G.trans (Ju2 M).2.2.2.symm;Xe (Jo<|Jw1 _ ⟨bO,R,Fct,cl,cE⟩<|KM R))
 rintro _ _ ⟨bE,rfl,_,b8,cB⟩
 refine Jz<|Jp<|Jg3 R ?_
 cases h
 exact Ja2 ⟨bE,(((FW .i64<|H.1+1):Int),O),R,Fct,b8,cB,bf⟩ R
 rintro _ _ ⟨bD,V,rfl,_,b5,cA,rfl⟩
 refine have h:=yI ct;Jz (Jp<|Jg3 R ?_)
 have cI:FW .i64 (v+1)=v+1:=wr1 cu (Jn2 aj) cr.len_le
 rw[cI]
 exact have aj:=Jn2 aj;Ou h aE (λaE=>Ja2 ⟨bD,v+1,(V.2,bA),R,Fct,b5,cA,Fct,cz,by omega,by omega,aE⟩ R)
 rintro _ _ ⟨aK,N,rfl,bV,_,cx,_,cy,rfl⟩
 exact have h:=yI cs;Jp (Jj3<|Jg4 tv R (Jh4 (haE (a8.stp bV).cells) I177 Z177 R)<|Jm4 aK 3 R Z177 R Fct R λ_ _ cm=>Tv<|Jd<|Ju<|Jb2 (l:=[.cell 2 177]) results158 (cc R cm I177 Z177 R R) R<|Oh h<|⟨(λu=>ren [(4,5),(5,6)]<|aK u),ac,ae,af,ad,ag,ab,B,C,K,L,(by simp only[cx,cy]),Fct,Fct,Fct,Fct,Fct,Fct⟩)
theorem yt {p0:Int}{v C}{p1:VI}(p:Rd Ri J w 0 v C p1){r:VB}(h:qY p0 p1=some r):Ret prog 159 [vi p0,.slice v p1.length C] w (Pvs FT 4 J w r):=by
 refine Jp3 J func159 R ntmps159 R λU=>Jf3 R<|Jl3 1 R<|Ob h λj T h=>Jl1 (J:=J) (E:=FT) (z:=(false:Bool)) 2 R R R R R R R Y179 dw R R R R R (λ_ _ _=>R) (Jv2 T) λn t D k I M=>Tv<|Jb 1 R<|Jq<|Jf3 R<|Ob h λB Q N=>Jt3 [5] (λb m e=>∃f,∃i:VB,m=b/\Stp [2] k D f e/\Oc FT 4 f e 2 n t i/\j.length=i.length/\B=FX i) (Jv<|Ju3 [1,5] (λc b m e=>∃f a,∃d:VB,m=(6,vi a)::b/\Stp [2] k D f e/\Oc FT 4 f e 2 n t d/\j.length=d.length/\0<=a/\FV ((p1.length:Int)-a)=c/\cntM (mg p1) c a d=some B) ⟨_,_,⟨k,0,j,R,Jo3,M,R,(by decide),(by simp),Q⟩,(KM R)⟩ ?_) ?_
 rintro c _ _ ⟨u,a,d,rfl,H,o,s,x,g,h⟩
 rcases c with _|c
 exact Jq<|Jl3 2 R<|Js3 R U30 R R<|Jb 1 R<|Jx2 R (dcf g)<|Jc1<|Jt<|Jt<|Jb1<|Oh h<|Jw1 _ ⟨u,d,R,Fct,o,s,R⟩<|KM R
 exact Ob h λo5 h q=>Jq<|Jl3 2 R<|Js3 R U30 R R<|Jb 1 R<|Jw2 R (dct g)<|Js<|Jp<|Jq<|Jv<|Jm3 3 R<|Ob h λ_ y h=>Jd3 R p y U30 Z2<|Jc3 R I2 ((p.stp<|I.tr H).gInt y)<|Ob h λ_ S h=>Jf R (Jg2 o.rdc S U179 Z4 R R s R) (Ob h λE A h=>Jk1 (J:=u) (E:=FT) 2 [] R R R R R R R R Z4 R R R R o A λ_ F _ L=>Tv<|have P:j.length=E.length:=s.trans (Ju2 A).2.2.2.symm;Jo (Jz<|Jp<|Jg3 R<|wr2 x g p.len_le ▸ (Ou h q (λq=>Ja2 ⟨F,a+1,E,R,Fct,L,P,nxz x,nxm g,q⟩ R))))
 rintro _ _ ⟨G,i,rfl,_,K,O,rfl⟩
 exact have h:=yI N;Jp (Jf3 R<|Ju<|Jb2 (l:=[.tmp 4]) results159 (Jq2 R R) R<|Oh h<|⟨G,n,t,(by simp only[O]),Fct,K⟩)
theorem sw {b m d k g i c f j e}{p0:l7Game}{p1:Int}{p2:Int}(A:Rd Ri J w 0 b m p0.owner) (B:Rd Ri J w 0 d k p0.prio) (C:Rd Rs J w 0 g i p0.next) (D:Rd Rs J w 0 c f p0.prev) (o:Rd Ri J w 0 j e p0.pick){r:Bool}(h:oN p0 p1 p2=some r):Ret prog 214 [.agg #[.slice b p0.owner.length m,.slice d p0.prio.length k,.slice g p0.next.length i,.slice c p0.prev.length f,.slice j p0.pick.length e],vi p1,vi p2] w (Pvb J w r):=by
 refine Jp3 J func214 R ntmps214 R λE=>Jj3<|Jx3 J 2 R λ_ z s u n=>Tv<|Jb 1 R<|Jj3<|Je3 R U177 R Z30<|Jc3 R I30 (n.ld 4 R R)<|Jn 1 R<|Ob h λF p h=>Jd3 R o p U30 Z2 (have a:=o.stp u;Jc3 R I2 (a.gInt p) (Jn 2 R<|Ob h λy h v=>Jk4 [6] 21 y s z 8 tv ?_ ?_))
 exact Bk h (λx h=>Je3 R U177 R Z30<|Jc3 R I30 (n.ld 4 R R)<|Jn 1 R<|Ob h λ_ q h=>Jd3 R a q U30 Z2<|Jc3 R I2 (a.gInt q)<|Jn 3 R<|Oh h<|Jl4 tv R) (λx h=>Jn 1 R<|Je4 R<|Jn 2 R<|Je4 R<|Jn 3 R<|Oh h<|Jl4 tv R)
 rintro _ _ _ ⟨rfl,t,_⟩
 exact have h:=v;Jb 1 R (Ju<|Jb2 (l:=[.tmp 6]) results214 (Jq2 R R) R<|Oh h<|⟨t,R,Fct⟩)
end
end Go.Proofs.YtldlmopdhmaceaaGreatDoor
