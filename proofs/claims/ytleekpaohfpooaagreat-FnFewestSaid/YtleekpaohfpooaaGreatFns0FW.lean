/- The walks, part 0. By program. -/
import Derived.Test.YtleekpaohfpooaaGreatFnsMFW
import Derived.Test.YtleekpaohfpooaaGreatAlFW
set_option linter.unusedVariables false
set_option linter.unusedSimpArgs false
open Go.IntKind renaming wrap → cb
open Sum renaming inr → eg, inl → gs
open Int renaming toNat → n6
namespace Go.Proofs.YtleekpaohfpooaaGreat
open Go Go.Wk Go.Proofs
set_option maxRecDepth 100000
set_option maxHeartbeats 1000000
variable {w:World}{κ:Col}
theorem gH {a b}{p0:dice}{p1:Int}{c}(k:Rd (Rp.int .u8) κ w 0 a b p0.b) (m:Bc κ w 2 c 65 [.slice a p0.b.length b,vi p0.i,.int .u64 p0.h]){r:Int×Int×Int}(h:dT p0 p1=some r):Ret Tryz.prog 25 [.pointer (some ⟨c,0,none⟩),vi p1] w (λv w'=>∃(κ':Col),v=vi r.1/\Ent κ w κ' w'/\Bc κ' w' 2 c 65 [.slice a p0.b.length b,vi r.2.1,.int .u64 r.2.2]):=by
 unfold dT at h
 refine Jk3 κ F25 R N25 R λhE=>Je3 R<|Jg3 [2,2,2,2,1,2,2,2,2,1] 2 R<|Jf R (bY R R)<|Jd3 R U65 R Z26<|Jb3 R I26 (m.ld 2 R R)<|Jn 2 R<|Jf R (bY R R)<|Jd3 R U65 R Z26<|Ju3 (κ:=κ) 2 (off:=2) (vc:=[.int .u64 (IntKind.u64.wrap ((IntKind.u64.wrap<|p0.h * 6364136223846793005)+1442695040888963407))]) (cs':=[.slice a p0.b.length b,vi p0.i,.int .u64 (IntKind.u64.wrap ((IntKind.u64.wrap<|p0.h * 6364136223846793005)+1442695040888963407))]) R Z26 R m R λw1 i j=>Tv<|Jd<|Jg3 [2,2,2,1,2,2,2,2] 1 R<|Jf R (bY R R)<|Jd3 R U65 R Z26<|Jb3 R I26 (j.ld 2 R R)<|Jf R (zr R R R (by decide))<|Jn 1 R<|Jf R (Jh2 U26 U2 R R)<|Jb 1 R<|Jq<|Jq<|Js1 (κ:=κ) [2] none [(0,2),(1,2),(2,2),(4,2),(5,2),(6,2),(3,0),(7,0),(8,2),(9,2)] [] (by kernel_rfl) (by kernel_rfl) λz g=>Jn 1 R<|Jf R (bY R R)<|Jd3 R U65 R Z3<|Jn 1 R<|Jf R (bY R R)<|Jd3 R U65 R Z22 ?_
 have e:=j.stp g
 refine Jg R (Jc2 I3 R R<|hvC (e.ld 1 R R) R)<|Jg R (Jc2 I22 R R<|hvC (e.ld 0 R R) R)<|Jn3 R U22 R R<|Jn 1 R<|Jt1<|Jd<|Ob h λo h x=>Jo3 [0,1] (λE L w'=>∃κ',L=(5,vi o.1)::E/\Stp [2] κ z κ' w'/\Bc κ' w' 2 c 65 [.slice a p0.b.length b,vi o.2,.int .u64 (IntKind.u64.wrap ((IntKind.u64.wrap<|p0.h * 6364136223846793005)+1442695040888963407))]) ?_ ?_
 revert h
 cases A:decide (p0.i<(p0.b.length:Int))
 refine JF λh=>Jy R<|Js ?_
 cases h
 exact Jw1 _ ⟨κ,R,Jj3,e⟩<|KM R
 refine JT λh=>Jx R<|Jq<|Js1 (κ:=κ) [0,2] none [(0,2),(1,2),(2,2),(3,2),(5,2),(6,2),(7,2),(4,0),(8,0),(9,2),(10,0),(11,2),(12,2),(13,2)] [] (by kernel_rfl) (by kernel_rfl) λB f=>Jn 2 R<|Jf R (bY R R)<|Jd3 R U65 R Z22<|Jn 1 R<|Jf R (bY R R)<|Jd3 R U65 R Z3 ?_
 have d:=e.stp f
 refine Jg R (Jc2 I22 R R<|hvC (d.ld 0 R R) R)<|Jg R (Jc2 I3 R R<|hvC (d.ld 1 R R) R)<|Ob h λF n h=>Jc3 R k n U22 Z5<|Jg R (Jc2 I5 R R<|hvC ((k.stp<|T3 i g f).gInt n) R)<|Jf R (Jh2 U5 U2 R R)<|Jn 2 R<|Jt1<|Jd<|Jh3 [2,2,2,2,1,2,2,2,1] 2 R<|Jf R (bY R R)<|Jd3 R U65 R Z3<|Jb3 R I3 (d.ld 1 R R)<|Jn 1 R<|Jf R (bY R R)<|Jd3 R U65 R Z3<|Ju3 (κ:=κ) 2 (off:=1) (vc:=[vi<|IntKind.i64.wrap<|p0.i+1]) (cs':=[.slice a p0.b.length b,vi (IntKind.i64.wrap<|p0.i+1),.int .u64 (IntKind.u64.wrap ((IntKind.u64.wrap<|p0.h * 6364136223846793005)+1442695040888963407))]) R Z3 R d R λC s u=>Tv<|Jo ?_
 cases h
 exact Jw1 _ ⟨κ,R,(f.tr s).wk R,u⟩<|KM R
 rintro _ D ⟨p,rfl,q,t⟩
 have h:=x
 refine Jp<|Jg3 [2,2,2,2] 2 R<|Ob h λ_z55 y h=>Jf R (rR R R R<|wU y)<|Jb 1 R<|Ju<|Ja2 (l:=[.tmp 4]) V25 (Jp2 R R) R ?_
 cases h
 exact⟨p,R,(hE.stp<|T3 i g q),t⟩
theorem ip {p0:Sig}  {r:Int}(h:eE p0=some r):Ret Tryz.prog 103 [.agg #[vi p0.In,vi p0.Out]] w (Pvi κ w r):=by
 unfold eE at h
 refine Jk3 κ F103 R N103 R λhE=>Je [1,2] R<|Js3 (κ:=κ) 2 R λe w1 b c a=>Tv<|Jb 1 R<|Je [2,1,2,1,2,2,2] R<|Jd3 R U28 R Z2<|Jb3 R I2 (a.ld 0 R R)<|Jd3 R U28 R Z2<|Jb3 R I2 (a.ld 1 R R)<|Jn 1 R<|Ob h λ_z8 d h=>Jf R (uv R R R<|wR d)<|Jb 1 R<|Ju<|Ja2 (l:=[.tmp 2]) V103 (Jp2 R R) R ?_
 cases h
 exact⟨b,R,(hE.stp c)⟩
theorem pp {p0:Int}  {r:Bool}(h:kC p0=some r):Ret Tryz.prog 196 [vi p0] w (Pvb κ w r):=by
 unfold kC at h
 refine Jk3 κ F196 R N196 R λhE=>Je3 R<|Jg3 [2,2,2,2,2,2,2,2,2,2,2] 3 R<|Ob h λa h f=>Jf4 [0,2] 8 a κ w [(3,2),(4,2),(5,2)] [(6,2),(7,2),(8,2),(9,2),(10,2)] tv ?_ ?_
 revert h
 cases k:(p0==2)
 refine JF λh=>Jn 3 R ?_
 cases h
 exact Jg4 tv R
 refine JT λh=>Jn 3 R ?_
 cases h
 exact Jg4 tv R
 rintro _ j _ ⟨rfl,b,e⟩
 have h:=f
 refine Jn 1 R<|Ob h λi h g=>Jf4 [2] 12 i b j [(7,2),(8,2),(9,2)] [(10,2)] tv ?_ ?_
 revert h
 cases m:a
 refine JF λh=>Jn 3 R ?_
 cases h
 exact Jg4 tv R
 refine JT λh=>Jn 3 R ?_
 cases h
 exact Jg4 tv R
 rintro _ n _ ⟨rfl,c,d⟩
 have h:=g
 refine Jb 1 R<|Ju<|Ja2 (l:=[.tmp 2]) V196 (Jp2 R R) R ?_
 cases h
 exact⟨c,R,(hE.stp<|e.tr d)⟩
theorem pv {p0:Sig}  {r:Bool}(h:lJ p0=some r):Ret Tryz.prog 82 [.agg #[vi p0.In,vi p0.Out]] w (Pvb κ w r):=by
 unfold lJ at h
 refine Jk3 κ F82 R N82 R λhE=>Je [1,2] R<|Js3 (κ:=κ) 2 R λu w1 g m a=>Tv<|Jb 1 R<|Je [2,1,2,2,2,1,2,2,2,2,1,2,2,2,2,1,2,2,2] R<|Jd3 R U28 R Z2<|Jb3 R I2 (a.ld 0 R R)<|Jn 2 R<|Ob h λd h p=>Jf4 [1,2] 10 d g w1 [(4,2),(5,1),(6,2),(7,2)] [(8,2),(9,2),(10,1),(11,2),(12,2),(13,2),(14,2),(15,1),(16,2),(17,2),(18,2)] tv ?_ ?_
 revert h
 cases y:decide (1<=p0.In)
 refine JF λh=>Jn 1 R<|Jz3 R<|Jn 2 R ?_
 cases h
 exact Jg4 tv R
 refine JT λh=>Jd3 R U28 R Z2<|Jb3 R I2 (a.ld 0 R R)<|Jn 2 R ?_
 cases h
 exact Jg4 tv R
 rintro _ t _ ⟨rfl,j,b⟩
 have h:=p
 refine Jn 1 R<|Ob h λe h n=>Jf4 [1,2] 15 e j t [(9,2),(10,1),(11,2),(12,2)] [(13,2),(14,2),(15,1),(16,2),(17,2),(18,2)] tv ?_ ?_
 revert h
 cases v:d
 refine JF λh=>Jn 1 R<|Jz3 R<|Jn 2 R ?_
 cases h
 exact Jg4 tv R
 refine JT λh=>Jd3 R U28 R Z2<|Jb3 R I2 ((a.stp b).ld 1 R R)<|Jn 2 R ?_
 cases h
 exact Jg4 tv R
 rintro _ s _ ⟨rfl,f,c⟩
 have h:=n
 refine Jn 1 R<|Ob h λq h o=>Jf4 [2] 20 q f s [(14,2),(15,1),(16,2),(17,2)] [(18,2)] tv ?_ ?_
 revert h
 cases x:e
 refine JF λh=>Jn 1 R<|Jz3 R<|Jn 2 R ?_
 cases h
 exact Jg4 tv R
 refine JT λh=>Jd3 R U28 R Z2<|Jb3 R I2 ((a.stp<|b.tr c).ld 1 R R)<|Jn 2 R ?_
 cases h
 exact Jg4 tv R
 rintro _ z _ ⟨rfl,i,k⟩
 have h:=o
 refine Jb 1 R<|Ju<|Ja2 (l:=[.tmp 2]) V82 (Jp2 R R) R ?_
 cases h
 exact⟨i,R,(hE.stp<|T4 m b c k)⟩
theorem oh {p0:Int}{p1:Int}{p2:Bool}{e:Bool}  {r:Int}(h:gj p0 p1 p2 e=some r):Ret Tryz.prog 171 [vi p0,vi p1,.bool p2,.bool e] w (Pvi κ w r):=by
 unfold gj at h
 refine Jk3 κ F171 R N171 R λhE=>Je3 R<|Je3 R<|Jq<|Je3 R<|Ob h λt h n=>Jo3 [0,1,3,10] (λE L w'=>∃κ',L=(9,vi t)::E/\Stp [] κ w κ' w') ?_ ?_
 revert h
 cases J:p2
 refine JF λh=>Jy R<|Js ?_
 cases h
 exact Jw1 _ ⟨κ,R,Jj3⟩<|KM R
 refine JT λh=>Jx R<|Jf3 R ?_
 cases h
 exact Jw1 _ ⟨κ,R,Jj3⟩<|KM R
 rintro _ u ⟨d,rfl,b⟩
 have h:=n
 refine Jp<|Jq<|Je3 R<|Ob h λf h q=>Jo3 [0,1,9] (λE L w'=>∃κ',L=(3,.bool f.1)::(10,vi f.2)::E/\Stp [] d u κ' w') ?_ ?_
 revert h
 cases x:e
 refine JF λh=>Jy R<|Js ?_
 cases h
 exact Jw1 _ ⟨d,R,Jj3⟩<|KM R
 refine JT λh=>Jx R<|Jf3 R ?_
 cases h
 exact Jw1 _ ⟨d,R,Jj3⟩<|KM R
 rintro _ k ⟨a,rfl,c⟩
 have h:=q
 refine Jp<|Jq<|Je3 R<|Jv<|Je3 R ?_
 revert h
 cases y:(p0==1)
 refine JF λh=>Jy R<|Je3 R ?_
 revert h
 cases z:(p0==2)
 refine JF λh=>Jy R<|Je3 R ?_
 revert h
 cases D:(p0==3)
 refine JF λh=>Jy R<|Je3 R ?_
 revert h
 cases G:(p0==4)
 refine JF λh=>Jy R<|Je3 R ?_
 revert h
 cases H:(p0==5)
 refine JF λh=>Jy R<|Je3 R ?_
 revert h
 cases I:(p0==6)
 refine JF λh=>Jy R<|Js<|Jz<|Jp<|Je3 R<|Ju<|Ja2 (l:=[.tmp 8]) V171 (Jp2 R R) R ?_
 cases h
 exact⟨a,R,(hE.stp<|b.tr c)⟩
 refine JT λh=>Jx R<|Jg3 [2,2,2,2] 2 R<|Jf R (uu R R R)<|Jb 1 R<|Ju<|Ja1<|Jw<|Ja2 (l:=[.tmp 8]) V171 (Jp2 R R) R ?_
 cases h
 exact⟨a,R,(hE.stp<|b.tr c)⟩
 refine JT λh=>Jx R<|Je3 R<|Ju<|Ja1<|Jw<|Ja2 (l:=[.tmp 8]) V171 (Jp2 R R) R ?_
 cases h
 exact⟨a,R,(hE.stp<|b.tr c)⟩
 refine JT λh=>Jx R<|Je3 R<|Ju<|Ja1<|Jw<|Ja2 (l:=[.tmp 8]) V171 (Jp2 R R) R ?_
 cases h
 exact⟨a,R,(hE.stp<|b.tr c)⟩
 refine JT λh=>Jx R<|Jq<|Je3 R ?_
 revert h
 cases F:f.1
 refine JF λh=>Jy R<|Js<|Jp<|Jg3 [2,2,2,2] 2 R<|Jf R (uu R R R)<|Jb 1 R<|Ju<|Ja1<|Jw<|Ja2 (l:=[.tmp 8]) V171 (Jp2 R R) R ?_
 cases h
 exact⟨a,R,(hE.stp<|b.tr c)⟩
 refine JT λh=>Jx R<|Je3 R<|Ju<|Jw<|Ja1<|Jw<|Ja2 (l:=[.tmp 8]) V171 (Jp2 R R) R ?_
 cases h
 exact⟨a,R,(hE.stp<|b.tr c)⟩
 refine JT λh=>Jx R<|Jq<|Jg3 [2,2,2,2,2,2,2,2,2,2] 3 R<|Ob h λj h o=>Jf4 [9] 31 j a k [(3,2),(4,2),(5,2),(6,2),(7,2),(8,2),(9,2)] [] tv ?_ ?_
 revert h
 cases A:(p1==2)
 refine JF λh=>Jn 3 R<|Ob h λs h p=>Jf4 [9,24] 30 s a k [(6,2),(7,2),(8,2)] [(9,2)] tv ?_ ?_
 revert h
 cases B:(p1==1)
 refine JF λh=>Jn 3 R ?_
 cases h
 exact Jg4 tv R
 refine JT λh=>Jn 3 R ?_
 cases h
 exact Jg4 tv R
 rintro _ K _ ⟨rfl,v,m⟩
 have h:=p
 refine Jn 1 R ?_
 cases h
 exact Jv1 _ tv ⟨R,_,m.wk R⟩<|KM R
 refine JT λh=>Jn 7 R ?_
 cases h
 exact Jg4 tv R
 rintro _ M _ ⟨rfl,g,i⟩
 have h:=o
 refine Jd ?_
 revert h
 cases C:j
 refine JF λh=>Jy R<|Js<|Jp<|Je3 R<|Ju<|Ja1<|Jw<|Ja2 (l:=[.tmp 8]) V171 (Jp2 R R) R ?_
 cases h
 exact⟨g,R,(hE.stp<|T3 b c i)⟩
 refine JT λh=>Jx R<|Je3 R<|Ju<|Jw<|Ja1<|Jw<|Ja2 (l:=[.tmp 8]) V171 (Jp2 R R) R ?_
 cases h
 exact⟨g,R,(hE.stp<|T3 b c i)⟩
 refine JT λh=>Jx R<|Jg3 [2,2,2,2,2] 3 R<|Jf R (uu R R R)<|Jb 1 R<|Ju<|Ja1<|Jw<|Ja2 (l:=[.tmp 8]) V171 (Jp2 R R) R ?_
 cases h
 exact⟨a,R,(hE.stp<|b.tr c)⟩
theorem px {p0:Int}{a1 k}{c0:(List Int)}{b}(q:Oc E6 2 κ w 2 a1 k c0) (g:Bc κ w 3 b 37 [.slice a1 c0.length k]){r:(List Int)}(h:kD p0 c0=some r):Ret Tryz.prog 219 [vi p0,.pointer (some ⟨b,0,none⟩)] w (λv w'=>∃(κ':Col) (i:Option Addr) (j:Nat),v= .tuple #[]/\Ent κ w κ' w'/\Oc E6 2 κ' w' 2 i j r/\Bc κ' w' 3 b 37 [.slice i r.length j]):=by
 unfold kD at h
 refine Jk3 κ F219 R N219 R λhE=>Ja [1,2,1,1,1] R<|Jb3 R I37 (g.ld 0 R R)<|Jn 1 R<|Jd4 (κ:=κ) 4 [p0] R Y37 a8 R λu x w1 m a o=>Tv<|Ob h λt s h=>Jy3 (κ:=m) (E:=E6) 2 [] R Y37 a8 R (q.stp a) (Sl.srcP (co _) o.rdc) bZ s R λf l z c e p=>Tv<|Jv3 (κ:=c) 3 (vc:=[.slice f t.length l]) R Z37 R (g.stp<|a.tr e) R λy d n=>Tv<|Jo<|DN.end0 V219 ?_
 cases h
 exact⟨c,f,l,R,(hE.stp<|T3 a e d),(p.stp d),n⟩
theorem iS {b c}{p0:(List Int)}(d:Oc E6 2 κ w 2 b c p0){r:(List Int)}(h:cJ p0=some r):Ret Tryz.prog 106 [.slice b p0.length c] w (λv w'=>∃(κ':Col),v= .tuple #[]/\Ent κ w κ' w'/\Oc E6 2 κ' w' 2 b c r/\p0.length=r.length):=by
  unfold cJ at h
  split at h
  · rename_i a
    cases h
    exact yz (λe j f zs w g hb i=>Tryz.slices_Sort_int e j f zs w g hb i) d a.1 a.2
  · split at h
    · rename_i a
      cases h
      exact xn Tryz.slices_Sort_int_none d a
    · cases h
theorem lW {b c}{p0:(List (List Int))}(j:Oc (Ep.fz (Rp.sl (Rp.int .i64))) 37 κ w 2 b c p0){r:(List (List Int))}(h:d8 p0=some r):Ret Tryz.prog 221 [.slice b p0.length c,.func (.func 222) #[] #[]] w (λv w'=>∃(κ':Col),v= .tuple #[]/\Ent κ w κ' w'/\Oc (Ep.fz (Rp.sl (Rp.int .i64))) 37 κ' w' 2 b c r/\p0.length=r.length):=by
  unfold d8 at h
  split at h
  · rename_i a
    cases h
    exact xp Tryz.slices_Compare (Tryz.slices_SortFunc_none (α:=Nat)) (@λα _ i h1 g k e m f d w hc a hb hs=>Tryz.slices_SortFunc (α:=α) i h1 g k 222 #[] e m f d w Tryz.call222 hc a hb hs) j a.1 (λl hl=>by have:=List.all_eq_true.1 a.2 l hl;cases l <;> simp_all)
  · cases h
theorem dh {p0:Int}  {r:Int}(h:de p0=some r):Ret Tryz.prog 62 [vi p0] w (Pvi κ w r):=by
 unfold de at h
 refine Jk3 κ F62 R N62 R λhE=>Je3 R<|Je3 R<|Jq<|Ob h λg n m=>?_
 clear h
 refine Jx1 (λL w'=>∃κ',∃c:Int×Int,L=[(3,vi c.2)]/\Stp [] κ w κ' w'/\g=eg c) ?_ ?_
 refine Jv<|Jy1 (λk L w'=>∃κ',∃b:Int×Int,L=[(0,vi b.1),(3,vi b.2)]/\Stp [] κ w κ' w'/\bU eV k b=some g) ⟨_,_,⟨κ,(p0,(1:Int)),R,Jj3,n⟩,(KM R)⟩ ?_
 rintro k _ s ⟨d,b,rfl,e,h⟩
 rcases k with _ | k
 cases h
 obtain⟨p,h,f⟩:=BI h;unfold eV at h
 refine Jq<|Je3 R ?_
 revert h
 cases o:decide (0<b.1)
 refine JF λh=>Jy R<|Jc1<|Jt<|Jt ?_
 cases h
 have h:=f
 refine Jb1 ?_
 cases h
 exact Jw1 _ ⟨d,(b.1,b.2),R,e.wk R,R⟩<|KM R
 refine JT λh=>Jx R<|Js<|Jp<|Jq<|Jv<|Jf3 R<|Jz<|Jp<|Jf3 R ?_
 cases h
 exact Jz1 λa ha=>⟨k,_,Ja3 _,⟨d,(((IntKind.i64.wrap<|b.1-1):Int),((IntKind.i64.wrap<|b.2 * 2):Int)),R,e.wk R,f⟩,(ha.mm R)⟩
 rintro _ q ⟨i,c,rfl,j,rfl⟩
 have h:=yI m
 refine Jp<|Je3 R<|Ju<|Ja2 (l:=[.tmp 2]) V62 (Jp2 R R) R ?_
 cases h
 exact⟨i,R,(hE.stp j)⟩
theorem sa {p0:Int}  {r:Pair}(h:lj p0=some r):Ret Tryz.prog 187 [vi p0] w (λv w'=>∃(κ':Col) (ab:Option Addr) (ad:Nat) (ac:Option Addr) (ae:Nat),v= .agg #[.slice ab r.Ask.length ad,.slice ac r.Give.length ae]/\Ent κ w κ' w'/\Oc E6 2 κ' w' 2 ab ad r.Ask/\Oc E6 2 κ' w' 3 ac ae r.Give):=by
 unfold lj at h
 refine Jk3 κ F187 R N187 R λhE=>Je [1] R<|Jt3 (κ:=κ) 2 R X127 R λaB w1 f d e=>Tv<|Jd<|Jq<|Je3 R<|Jv<|Jq<|Je3 R<|Ob h λaa h aA=>Jo3 [2,3] (λE L w'=>∃κ',L=(4,.bool aa)::E/\Stp [] f w1 κ' w') ?_ ?_
 revert h
 cases aH:(p0==1)
 refine JF λh=>Jy R<|Jf3 R ?_
 cases h
 exact Jw1 _ ⟨f,R,Jj3⟩<|KM R
 refine JT λh=>Jx R<|Js ?_
 cases h
 exact Jw1 _ ⟨f,R,Jj3⟩<|KM R
 rintro _ aS ⟨c,rfl,a⟩
 have h:=aA
 refine Jp ?_
 revert h
 cases aC:aa
 refine JF λh=>Jy R<|Je3 R ?_
 revert h
 cases aD:(p0==2)
 refine JF λh=>Jy R<|Je3 R ?_
 revert h
 cases aE:(p0==3)
 refine JF λh=>Jy R<|Je3 R ?_
 revert h
 cases aF:(p0==4)
 refine JF λh=>Jy R<|Je3 R ?_
 revert h
 cases aG:(p0==6)
 refine JF λh=>Jy R<|Js<|Jz<|Jp<|Je [1,1,2,1] R<|Jd4 (κ:=c) 3 [2,3] R Y37 a8 R λU W aV ai G ax=>Tv<|Jd4 (κ:=ai) 4 [1,3] R Y37 a8 R λK J aW u m ay=>Tv<|Jf R (Ji4 [.slice U ([2,3]:List Int).length W,.slice K ([1,3]:List Int).length J] R)<|Jh4 (κ:=u) 2 R Z127 R (e.stp<|T3 a G m) R λaX n az=>Tv<|Jd<|Ju<|Ja2 (l:=[.cell 2 127]) V187 (ca R az I127 Z127 R R) R ?_
 cases h
 exact⟨(λb=>ren [(3,2),(4,3)]<|u b),U,W,K,J,R,((hE.stp<|T5 d a G m n).map (ren [(3,2),(4,3)]) R R),((ax.stp<|m.tr n).map (ren [(3,2),(4,3)]) R R),((ay.stp n).map (ren [(3,2),(4,3)]) R R)⟩
 refine JT λh=>Jx R<|Je [1,2,1] R<|Jd4 (κ:=c) 3 [0] R Y37 a8 R λO M aT t D av=>Tv<|Jf R (Ji4 [.slice O ([0]:List Int).length M,.slice none 0 0] R)<|Jh4 (κ:=t) 2 R Z127 R (e.stp<|a.tr D) R λaU F aw=>Tv<|Jd<|Ju<|Ja1<|Jw<|Ja2 (l:=[.cell 2 127]) V187 (ca R aw I127 Z127 R R) R ?_
 cases h
 exact⟨(λb=>ren [(3,2)]<|t b),O,M,none,0,R,((hE.stp<|T4 d a D F).map (ren [(3,2)]) R R),((av.stp F).map (ren [(3,2)]) R R),Ow.nil⟩
 refine JT λh=>Jx R<|Je [1,1,2,1] R<|Jd4 (κ:=c) 3 [0,1] R Y37 a8 R λN Q aP ah C aq=>Tv<|Jd4 (κ:=ah) 4 [1] R Y37 a8 R λS V aQ s j ar=>Tv<|Jf R (Ji4 [.slice N ([0,1]:List Int).length Q,.slice S ([1]:List Int).length V] R)<|Jh4 (κ:=s) 2 R Z127 R (e.stp<|T3 a C j) R λaR k au=>Tv<|Jd<|Ju<|Ja1<|Jw<|Ja2 (l:=[.cell 2 127]) V187 (ca R au I127 Z127 R R) R ?_
 cases h
 exact⟨(λb=>ren [(3,2),(4,3)]<|s b),N,Q,S,V,R,((hE.stp<|T5 d a C j k).map (ren [(3,2),(4,3)]) R R),((aq.stp<|j.tr k).map (ren [(3,2),(4,3)]) R R),((ar.stp k).map (ren [(3,2),(4,3)]) R R)⟩
 refine JT λh=>Jx R<|Je [1,1,2,1] R<|Jd4 (κ:=c) 3 [1] R Y37 a8 R λT P aM ag B an=>Tv<|Jd4 (κ:=ag) 4 [0] R Y37 a8 R λY X aN q g ao=>Tv<|Jf R (Ji4 [.slice T ([1]:List Int).length P,.slice Y ([0]:List Int).length X] R)<|Jh4 (κ:=q) 2 R Z127 R (e.stp<|T3 a B g) R λaO i ap=>Tv<|Jd<|Ju<|Ja1<|Jw<|Ja2 (l:=[.cell 2 127]) V187 (ca R ap I127 Z127 R R) R ?_
 cases h
 exact⟨(λb=>ren [(3,2),(4,3)]<|q b),T,P,Y,X,R,((hE.stp<|T5 d a B g i).map (ren [(3,2),(4,3)]) R R),((an.stp<|g.tr i).map (ren [(3,2),(4,3)]) R R),((ao.stp i).map (ren [(3,2),(4,3)]) R R)⟩
 refine JT λh=>Jx R<|Je [1,2,1] R<|Jd4 (κ:=c) 3 [2] R Y37 a8 R λZ I aK p z al=>Tv<|Jf R (Ji4 [.slice Z ([2]:List Int).length I,.slice none 0 0] R)<|Jh4 (κ:=p) 2 R Z127 R (e.stp<|a.tr z) R λaL A am=>Tv<|Jd<|Ju<|Ja1<|Jw<|Ja2 (l:=[.cell 2 127]) V187 (ca R am I127 Z127 R R) R ?_
 cases h
 exact⟨(λb=>ren [(3,2)]<|p b),Z,I,none,0,R,((hE.stp<|T4 d a z A).map (ren [(3,2)]) R R),((al.stp A).map (ren [(3,2)]) R R),Ow.nil⟩
 refine JT λh=>Jx R<|Je [1,2,1] R<|Jd4 (κ:=c) 3 [1] R Y37 a8 R λH af aI o x aj=>Tv<|Jf R (Ji4 [.slice H ([1]:List Int).length af,.slice none 0 0] R)<|Jh4 (κ:=o) 2 R Z127 R (e.stp<|a.tr x) R λaJ y ak=>Tv<|Jd<|Ju<|Ja1<|Jw<|Ja2 (l:=[.cell 2 127]) V187 (ca R ak I127 Z127 R R) R ?_
 cases h
 exact⟨(λb=>ren [(3,2)]<|o b),H,af,none,0,R,((hE.stp<|T4 d a x y).map (ren [(3,2)]) R R),((aj.stp y).map (ren [(3,2)]) R R),Ow.nil⟩
theorem p7 {p0:Int}  {r:Int}(h:jA p0=some r):Ret Tryz.prog 188 [vi p0] w (Pvi κ w r):=by
 unfold jA at h
 refine Jk3 κ F188 R N188 R λhE=>Je3 R<|Jq<|Je3 R<|Jv<|Je3 R ?_
 revert h
 cases a:(p0==2)
 refine JF λh=>Jy R<|Je3 R ?_
 revert h
 cases b:(p0==7)
 refine JF λh=>Jy R<|Js<|Jz<|Jp<|Je3 R<|Ju<|Ja2 (l:=[.tmp 2]) V188 (Jp2 R R) R ?_
 cases h
 exact⟨κ,R,hE⟩
 refine JT λh=>Jx R<|Je3 R<|Ju<|Ja1<|Jw<|Ja2 (l:=[.tmp 2]) V188 (Jp2 R R) R ?_
 cases h
 exact⟨κ,R,hE⟩
 refine JT λh=>Jx R<|Je3 R<|Ju<|Ja1<|Jw<|Ja2 (l:=[.tmp 2]) V188 (Jp2 R R) R ?_
 cases h
 exact⟨κ,R,hE⟩
theorem mA {p0:Bool}  {r:Int}(h:iF p0=some r):Ret Tryz.prog 192 [.bool p0] w (Pvi κ w r):=by
 unfold iF at h
 refine Jk3 κ F192 R N192 R λhE=>Je3 R<|Jq<|Je3 R ?_
 revert h
 cases a:p0
 refine JF λh=>Jy R<|Js<|Jp<|Je3 R<|Ju<|Ja2 (l:=[.tmp 2]) V192 (Jp2 R R) R ?_
 cases h
 exact⟨κ,R,hE⟩
 refine JT λh=>Jx R<|Je3 R<|Ju<|Jw<|Ja2 (l:=[.tmp 2]) V192 (Jp2 R R) R ?_
 cases h
 exact⟨κ,R,hE⟩
theorem qv {n z}{p0:(List (List Int))}{p1:Int}{p2:Int}(g:Rd (Rp.sl (Rp.int .i64)) κ w 0 n z p0){r:Int}(h:km p0 p1 p2=some r):Ret Tryz.prog 95 [.slice n p0.length z,vi p1,vi p2] w (Pvi κ w r):=by
 unfold km at h
 refine Jk3 κ F95 R N95 R λhE=>Je3 R<|Jq<|Je3 R ?_
 have D:(p0.length:Int)<=9223372036854775807:=g.len_le
 refine Ob h λy I q=>?_
 clear h
 refine Jx1 (λL w'=>∃κ',L=[]/\Stp [] κ w κ' w'/\y=eg ()) ?_ ?_
 refine Jv<|Jp3 [0,1,2] (λk E L w'=>∃κ' b,L=(7,vi b)::E/\Stp [] κ w κ' w'/\0<=b/\n6 ((p0.length:Int)-b)=k/\cntM (gA p0 p1 p2) k b ()=some y) ⟨_,_,⟨κ,0,R,Jj3,(by decide),(by simp),I⟩,(KM R)⟩ ?_
 rintro k _ M ⟨j,b,rfl,d,F,Q,h⟩
 rcases k with _ | k
 have e:=h;obtain⟨K,h⟩:=cn (eg (gs ()):Int⊕((Unit)⊕(Unit)))
 have c:decide (b<(p0.length:Int))=false:=Jo2 (by omega)
 refine Jq<|Jg3 [2,2,2,2] 2 R<|Jn3 R U31 R R<|Jb 1 R<|Jw2 R c<|Jc1<|Jt<|Jt ?_
 cases h
 have h:=e
 refine Jb1 ?_
 cases h
 exact Jw1 _ ⟨j,R,d.wk R,R⟩ KN
 obtain⟨K,h,e⟩:=BI h;unfold gA at h
 have c:decide (b<(p0.length:Int))=true:=Jn2 (by omega)
 refine Jq<|Jg3 [2,2,2,2] 2 R<|Jn3 R U31 R R<|Jb 1 R<|Jv2 R c<|Js<|Jp<|Jq<|Jv<|Jg3 [2,2,2,1,2,1,2,2,2,2,2,2,1,2,1,2,2,2] 2 R<|Ob h λY s h=>Jc3 R g s U31 Z37 ?_
 have f:=g.stp d
 obtain⟨O,U,o,G⟩:=f.gSl s
 refine Jb3 R I37 G<|Ob h λN t h=>Jc3 R o t U37 Z2<|Jb3 R I2 (o.gInt t)<|Jn 3 R<|Ob h λx h C=>Jf4 [0,1,2,7] 31 x j M [(9,2),(10,2),(11,2),(12,1),(13,2),(14,1),(15,2),(16,2),(17,2)] [] tv ?_ ?_
 revert h
 cases S:(N==p1)
 refine JF λh=>Jn 3 R<|Jz3 R<|Jn 1 R<|Jz3 R<|Jn 3 R ?_
 cases h
 exact Jg4 tv R
 refine JT λh=>Jn 2 R<|Ob h λZ u h=>Jc3 R f u U31 Z37 ?_
 obtain⟨P,V,p,H⟩:=f.gSl u
 refine Jb3 R I37 H<|Ob h λaa v h=>Jc3 R p v U37 Z2<|Jb3 R I2 (p.gInt v)<|Jn 3 R ?_
 cases h
 exact Jg4 tv R
 rintro _ W _ ⟨rfl,i,m⟩
 have h:=C
 refine Jd ?_
 revert h
 cases T:x
 refine JF λh=>Jy R<|Js<|Jz<|Jp<|Jf3 R ?_
 have J:cb .i64 (b+1)=b+1:=wr1 F (Jm2 c) D
 rw[J]
 have c:=Jm2 c
 cases h
 exact Jz1 λa ha=>⟨k,_,Ja3 _,⟨i,b+1,R,(d.tr m).wk R,by omega,by omega,e⟩,(ha.mm R)⟩
 refine JT λh=>Jx R<|Je3 R<|Ju<|Ja1<|Jw<|Jw ?_
 cases h
 obtain rfl:=Option.some.inj e
 have h:=yL q
 refine Ja1<|Jq2<|Jw<|Ja2 (l:=[.tmp 6]) V95 (Jp2 R R) R ?_
 cases h
 exact⟨i,R,(hE.stp<|d.tr m)⟩
 rintro _ X ⟨A,rfl,B,rfl⟩
 have h:=yI q
 refine Jp<|Je3 R<|Ju<|Ja2 (l:=[.tmp 6]) V95 (Jp2 R R) R ?_
 cases h
 exact⟨A,R,(hE.stp B)⟩
theorem oA {j s}{p0:(List Int)}{a1 t}{p1:(List Int)}(i:Rd (Rp.int .i64) κ w 0 j s p0) (m:Rd (Rp.int .i64) κ w 0 a1 t p1){r:Bool}(h:gv p0 p1=some r):Ret Tryz.prog 198 [.slice j p0.length s,.slice a1 p1.length t] w (Pvb κ w r):=by
 unfold gv at h
 refine Jk3 κ F198 R N198 R λhE=>Je3 R<|Jq<|Jg3 [2,2,2,2,2] 1 R<|Jn3 R U37 R R<|Jn 1 R<|Jn3 R U37 R R<|Jb 1 R ?_
 revert h
 cases G:((p0.length:Int) !=(p1.length:Int))
 refine JF λh=>Jy R<|Js<|Jp<|Jq<|Je3 R ?_
 have x:(p0.length:Int)<=9223372036854775807:=i.len_le
 refine Ob h λq z n=>?_
 clear h
 refine Jx1 (λL w'=>∃κ',L=[]/\Stp [] κ w κ' w'/\q=eg ()) ?_ ?_
 refine Jv<|Jp3 [0,1] (λk E L w'=>∃κ' b,L=(5,vi b)::E/\Stp [] κ w κ' w'/\0<=b/\n6 ((p0.length:Int)-b)=k/\cntM (ep p0 p1) k b ()=some q) ⟨_,_,⟨κ,0,R,Jj3,(by decide),(by simp),z⟩,(KM R)⟩ ?_
 rintro k _ K ⟨e,b,rfl,d,y,F,h⟩
 rcases k with _ | k
 have g:=h;obtain⟨B,h⟩:=cn (eg (gs ()):Bool⊕((Unit)⊕(Unit)))
 have c:decide (b<(p0.length:Int))=false:=Jo2 (by omega)
 refine Jq<|Jg3 [2,2,2,2] 2 R<|Jn3 R U37 R R<|Jb 1 R<|Jw2 R c<|Jc1<|Jt<|Jt ?_
 cases h
 have h:=g
 refine Jb1 ?_
 cases h
 exact Jw1 _ ⟨e,R,d.wk R,R⟩ KN
 obtain⟨B,h,g⟩:=BI h;unfold ep at h
 have c:decide (b<(p0.length:Int))=true:=Jn2 (by omega)
 refine Jq<|Jg3 [2,2,2,2] 2 R<|Jn3 R U37 R R<|Jb 1 R<|Jv2 R c<|Js<|Jp<|Jq<|Jv<|Jq<|Js1 (κ:=e) [0] none [(0,2),(1,2),(2,2),(4,2),(5,2),(6,2),(3,0),(7,0),(8,2)] [] (by kernel_rfl) (by kernel_rfl) λI f=>Jn 2 R<|Ob h λC o h=>Jc3 R i o U37 Z2<|Jn 2 R<|Ob h λD p h=>Jc3 R m p U37 Z2<|Jg R (Jc2 I2 R R<|hvC ((i.stp<|d.tr f).gInt o) R)<|Jg R (Jc2 I2 R R<|hvC ((m.stp<|d.tr f).gInt p) R)<|Jn 1 R<|Jt1<|Jd ?_
 revert h
 cases H:(C !=D)
 refine JF λh=>Jy R<|Js<|Jz<|Jp<|Jf3 R ?_
 have A:cb .i64 (b+1)=b+1:=wr1 y (Jm2 c) x
 rw[A]
 have c:=Jm2 c
 cases h
 exact Jz1 λa ha=>⟨k,_,Ja3 _,⟨e,b+1,R,(d.tr f).wk R,by omega,by omega,g⟩,(ha.mm R)⟩
 refine JT λh=>Jx R<|Je3 R<|Ju<|Ja1<|Jw<|Jw ?_
 cases h
 obtain rfl:=Option.some.inj g
 have h:=yL n
 refine Ja1<|Jq2<|Jw<|Ja2 (l:=[.tmp 4]) V198 (Jp2 R R) R ?_
 cases h
 exact⟨e,R,(hE.stp<|d.tr f)⟩
 rintro _ J ⟨u,rfl,v,rfl⟩
 have h:=yI n
 refine Jp<|Je3 R<|Ju<|Ja2 (l:=[.tmp 4]) V198 (Jp2 R R) R ?_
 cases h
 exact⟨u,R,(hE.stp v)⟩
 refine JT λh=>Jx R<|Je3 R<|Ju<|Jw<|Ja2 (l:=[.tmp 4]) V198 (Jp2 R R) R ?_
 cases h
 exact⟨κ,R,hE⟩
theorem sf {i o}{p0:(List Int)}{p1:Int}(g:Rd (Rp.int .i64) κ w 0 i o p0){r:Bool}(h:oB p0 p1=some r):Ret Tryz.prog 284 [.slice i p0.length o,vi p1] w (Pvb κ w r):=by
 unfold oB at h
 refine Jk3 κ F284 R N284 R λhE=>Je3 R<|Jq<|Je3 R ?_
 have s:(p0.length:Int)<=9223372036854775807:=g.len_le
 refine Ob h λn u j=>?_
 clear h
 refine Jx1 (λL w'=>∃κ',L=[]/\Stp [] κ w κ' w'/\n=eg ()) ?_ ?_
 refine Jv<|Jp3 [0,1] (λk E L w'=>∃κ' b,L=(5,vi b)::E/\Stp [] κ w κ' w'/\0<=b/\n6 ((p0.length:Int)-b)=k/\cntM (lT p0 p1) k b ()=some n) ⟨_,_,⟨κ,0,R,Jj3,(by decide),(by simp),u⟩,(KM R)⟩ ?_
 rintro k _ C ⟨f,b,rfl,d,t,z,h⟩
 rcases k with _ | k
 have e:=h;obtain⟨x,h⟩:=cn (eg (gs ()):Bool⊕((Unit)⊕(Unit)))
 have c:decide (b<(p0.length:Int))=false:=Jo2 (by omega)
 refine Jq<|Jg3 [2,2,2,2] 2 R<|Jn3 R U37 R R<|Jb 1 R<|Jw2 R c<|Jc1<|Jt<|Jt ?_
 cases h
 have h:=e
 refine Jb1 ?_
 cases h
 exact Jw1 _ ⟨f,R,d.wk R,R⟩ KN
 obtain⟨x,h,e⟩:=BI h;unfold lT at h
 have c:decide (b<(p0.length:Int))=true:=Jn2 (by omega)
 refine Jq<|Jg3 [2,2,2,2] 2 R<|Jn3 R U37 R R<|Jb 1 R<|Jv2 R c<|Js<|Jp<|Jq<|Jv<|Jg3 [2,2,2,1,2,2] 2 R<|Ob h λy m h=>Jc3 R g m U37 Z2<|Jb3 R I2 ((g.stp d).gInt m)<|Jb 2 R ?_
 revert h
 cases A:(y==p1)
 refine JF λh=>Jy R<|Js<|Jz<|Jp<|Jf3 R ?_
 have v:cb .i64 (b+1)=b+1:=wr1 t (Jm2 c) s
 rw[v]
 have c:=Jm2 c
 cases h
 exact Jz1 λa ha=>⟨k,_,Ja3 _,⟨f,b+1,R,d.wk R,by omega,by omega,e⟩,(ha.mm R)⟩
 refine JT λh=>Jx R<|Je3 R<|Ju<|Ja1<|Jw<|Jw ?_
 cases h
 obtain rfl:=Option.some.inj e
 have h:=yL j
 refine Ja1<|Jq2<|Jw<|Ja2 (l:=[.tmp 4]) V284 (Jp2 R R) R ?_
 cases h
 exact⟨f,R,(hE.stp d)⟩
 rintro _ B ⟨p,rfl,q,rfl⟩
 have h:=yI j
 refine Jp<|Je3 R<|Ju<|Ja2 (l:=[.tmp 4]) V284 (Jp2 R R) R ?_
 cases h
 exact⟨p,R,(hE.stp q)⟩
theorem ra {o p n m q j}{p0:Parity}(ai:Rd (Rp.int .i64) κ w 0 o p p0.Arena.Owner) (X:Rd (Rp.sl (Rp.int .i64)) κ w 0 n m p0.Arena.Next) (af:Rd (Rp.int .i64) κ w 0 q j p0.Prio){r:l7Game}(h:oC p0=some r):Ret Tryz.prog 201 [.agg #[.slice o p0.Arena.Owner.length p,.slice n p0.Arena.Next.length m,.slice q p0.Prio.length j]] w (λv w'=>∃(κ':Col) (bK:Option Addr) (bP:Nat) (bL:Option Addr) (bQ:Nat) (bM:Option Addr) (bR:Nat) (bN:Option Addr) (bS:Nat) (bO:Option Addr) (bV:Nat),v= .agg #[.slice bK r.owner.length bP,.slice bL r.prio.length bQ,.slice bM r.next.length bR,.slice bN r.prev.length bS,.slice bO r.pick.length bV]/\Ent κ w κ' w'/\Rd (Rp.int .i64) κ' w' 0 bK bP r.owner/\Rd (Rp.int .i64) κ' w' 0 bL bQ r.prio/\Rd (Rp.sl (Rp.int .i64)) κ' w' 0 bM bR r.next/\Oc (Ep.own E6 2) 37 κ' w' 5 bN bS r.prev/\Oc E6 2 κ' w' 6 bO bV r.pick):=by
 unfold oC at h
 refine Jk3 κ F201 R N201 R λhE=>Je [1,1] R<|Js3 (κ:=κ) 2 R λdC w1 b5 O cZ=>Tv<|Jt3 (κ:=b5) 3 R X210 R λdD dv ao D c6=>Tv<|Jd<|Je [2,1,2,2] R<|Jd3 R U79 R Z37 ?_
 have a1:=cZ.stp D
 refine Jb3 R I37 (a1.ld 2 R R)<|Jn3 R U37 R R<|Jb 1 R<|Jq<|Ob h λc aw h=>Ob h λd ax h=>Jo3 [1,2,3] (λE L w'=>∃κ' s aG ar aH aI aF aE G F ah ag,L=(4,.pointer (some ⟨s,0,none⟩))::E/\Stp [4,5,6] ao dv κ' w'/\Rd (Rp.int .i64) κ' w' 0 aG ar ((⟨p0.Arena.Owner,p0.Prio,p0.Arena.Next,c,d⟩:l7Game).owner)/\Rd (Rp.int .i64) κ' w' 0 aH aI ((⟨p0.Arena.Owner,p0.Prio,p0.Arena.Next,c,d⟩:l7Game).prio)/\Rd (Rp.sl<|Rp.int .i64) κ' w' 0 aF aE ((⟨p0.Arena.Owner,p0.Prio,p0.Arena.Next,c,d⟩:l7Game).next)/\Oc (Ep.own E6 2) 37 κ' w' 4 G F ((⟨p0.Arena.Owner,p0.Prio,p0.Arena.Next,c,d⟩:l7Game).prev)/\Oc E6 2 κ' w' 5 ah ag ((⟨p0.Arena.Owner,p0.Prio,p0.Arena.Next,c,d⟩:l7Game).pick)/\Bc κ' w' 6 s 210 [.slice aG ((⟨p0.Arena.Owner,p0.Prio,p0.Arena.Next,c,d⟩:l7Game).owner).length ar,.slice aH ((⟨p0.Arena.Owner,p0.Prio,p0.Arena.Next,c,d⟩:l7Game).prio).length aI,.slice aF ((⟨p0.Arena.Owner,p0.Prio,p0.Arena.Next,c,d⟩:l7Game).next).length aE,.slice G ((⟨p0.Arena.Owner,p0.Prio,p0.Arena.Next,c,d⟩:l7Game).prev).length F,.slice ah ((⟨p0.Arena.Owner,p0.Prio,p0.Arena.Next,c,d⟩:l7Game).pick).length ag]) ?_ ?_
 refine WC.rxt (κ:=ao) [2] none (by kernel_rfl) λdY t=>Jq1 (fuel:=5) [(0,2),(1,2),(3,2),(5,2),(6,2),(8,2),(10,2),(2,0),(4,0),(7,0)] (by kernel_rfl) (by kernel_rfl) R<|Jd3 R U79 R Z75<|Jd3 R U75 R Z37<|Jd3 R U79 R Z37<|Jd3 R U79 R Z75<|Jd3 R U75 R Z31<|Jn 2 R ?_
 have a0:=a1.stp t
 refine Jg R (Jc2 I37 R R<|hvC (a0.ld 0 R R) R)<|Jg R (Jc2 I37 R R<|hvC (a0.ld 2 R R) R)<|Jg R (Jc2 I31 R R<|hvC (a0.ld 1 R R) R)<|Jp1<|WA.fork3 (fuel:=4) 9 11 13 (by kernel_rfl) R ?_ ?_ ?_
 refine Jl1 (κ:=ao) (E:=(Ep.own E6 2)) (z:=(([]:List Int):(List Int))) 4 R R R R R R R Y31 bT R R R R R (λ_ _ _=>⟨none,0,R,Ow.nil⟩) (Ju2 aw) λf i d4 bb x bA=>⟨(x.cl R),Jp1<|WA.fork2 (fuel:=3) 11 13 (by kernel_rfl) R ?_ ?_⟩
 have aO:=(T4 O D t x)
 exact Jl1 (κ:=bb) (E:=E6) (z:=(0:Int)) 5 R R R R R R R Y37 a8 R R R R R (λ_ _ _=>R) (Ju2 ax) λg e d8 cg N cW=>⟨((x.tr N).cl R),Jp1<|Jq1 (fuel:=0) [(12,2),(13,1),(14,1)] (by kernel_rfl) (by kernel_rfl) R<|Jf R (Ji4 [.slice o p0.Arena.Owner.length p,.slice q p0.Prio.length j,.slice n p0.Arena.Next.length m,.slice f c.length i,.slice g d.length e] R)<|Jt3 (κ:=cg) 6 R X210 R λs d9 bc P cX=>⟨((T3 x N P).cl R),Jh4 (κ:=bc) 6 R Z210 R cX R λea ab cY=>⟨((T4 x N P ab).cl R),Jp1<|Jr1 [] (by kernel_rfl) (by kernel_rfl) R<|Jo<|Jw1 _ ⟨bc,s,o,p,q,j,n,m,f,i,g,e,R,(T5 t x N P ab).wk R,(ai.stp<|T4 aO N P ab),(af.stp<|T4 aO N P ab),(X.stp<|T4 aO N P ab),(bA.stp<|T3 N P ab),(cW.stp<|P.tr ab),cY⟩<|KM R⟩⟩⟩
 have aP:=(T4 O D t x)
 exact Jt3 (κ:=bb) 5 R X210 R λs eb ch Q c0=>⟨((x.tr Q).cl R),Jp1<|Jq1 (fuel:=0) [(11,1),(12,2),(14,1)] (by kernel_rfl) (by kernel_rfl) R<|Jl1 (κ:=ch) (E:=E6) (z:=(0:Int)) 6 R R R R R R R Y37 a8 R R R R R (λ_ _ _=>R) (Ju2 ax) λg e ec bd S c1=>⟨((T3 x Q S).cl R),Jf R (Ji4 [.slice o p0.Arena.Owner.length p,.slice q p0.Prio.length j,.slice n p0.Arena.Next.length m,.slice f c.length i,.slice g d.length e] R)<|Jh4 (κ:=bd) 5 R Z210 R (c0.stp S) R λed ac c2=>⟨((T4 x Q S ac).cl R),Jp1<|Jr1 [] (by kernel_rfl) (by kernel_rfl) R<|Jo<|Jw1 _ ⟨(λb=>ren [(6,5),(5,6)]<|bd b),s,o,p,q,j,n,m,f,i,g,e,R,(Jy2 ((T5 t x Q S ac).wk R) [(6,5),(5,6)] R),((ai.stp<|T4 aP Q S ac).map (ren [(6,5),(5,6)]) R R),((af.stp<|T4 aP Q S ac).map (ren [(6,5),(5,6)]) R R),((X.stp<|T4 aP Q S ac).map (ren [(6,5),(5,6)]) R R),((bA.stp<|T3 Q S ac).map (ren [(6,5),(5,6)]) R R),((c1.stp ac).map (ren [(6,5),(5,6)]) R R),(c2.map (ren [(6,5),(5,6)]) R R)⟩<|KM R⟩⟩⟩
 refine Jl1 (κ:=ao) (E:=E6) (z:=(0:Int)) 4 R R R R R R R Y37 a8 R R R R R (λ_ _ _=>R) (Ju2 ax) λg e ee be y bB=>⟨(y.cl R),Jp1<|WA.fork2 (fuel:=3) 9 13 (by kernel_rfl) R ?_ ?_⟩
 have aQ:=(T4 O D t y)
 exact Jl1 (κ:=be) (E:=(Ep.own E6 2)) (z:=(([]:List Int):(List Int))) 5 R R R R R R R Y31 bT R R R R R (λ_ _ _=>⟨none,0,R,Ow.nil⟩) (Ju2 aw) λf i ef ci T c3=>⟨((y.tr T).cl R),Jp1<|Jq1 (fuel:=0) [(12,2),(13,1),(14,1)] (by kernel_rfl) (by kernel_rfl) R<|Jf R (Ji4 [.slice o p0.Arena.Owner.length p,.slice q p0.Prio.length j,.slice n p0.Arena.Next.length m,.slice f c.length i,.slice g d.length e] R)<|Jt3 (κ:=ci) 6 R X210 R λs eh bf U c4=>⟨((T3 y T U).cl R),Jh4 (κ:=bf) 6 R Z210 R c4 R λei ad c5=>⟨((T4 y T U ad).cl R),Jp1<|Jr1 [] (by kernel_rfl) (by kernel_rfl) R<|Jo<|Jw1 _ ⟨(λb=>ren [(5,4),(4,5)]<|bf b),s,o,p,q,j,n,m,f,i,g,e,R,(Jy2 ((T5 t y T U ad).wk R) [(5,4),(4,5)] R),((ai.stp<|T4 aQ T U ad).map (ren [(5,4),(4,5)]) R R),((af.stp<|T4 aQ T U ad).map (ren [(5,4),(4,5)]) R R),((X.stp<|T4 aQ T U ad).map (ren [(5,4),(4,5)]) R R),((c3.stp<|U.tr ad).map (ren [(5,4),(4,5)]) R R),((bB.stp<|T3 T U ad).map (ren [(5,4),(4,5)]) R R),(c5.map (ren [(5,4),(4,5)]) R R)⟩<|KM R⟩⟩⟩
 have aR:=(T4 O D t y)
 exact Jt3 (κ:=be) 5 R X210 R λs ej cj V c7=>⟨((y.tr V).cl R),Jp1<|Jq1 (fuel:=0) [(9,1),(12,2),(14,1)] (by kernel_rfl) (by kernel_rfl) R<|Jl1 (κ:=cj) (E:=(Ep.own E6 2)) (z:=(([]:List Int):(List Int))) 6 R R R R R R R Y31 bT R R R R R (λ_ _ _=>⟨none,0,R,Ow.nil⟩) (Ju2 aw) λf i ek bg W c8=>⟨((T3 y V W).cl R),Jf R (Ji4 [.slice o p0.Arena.Owner.length p,.slice q p0.Prio.length j,.slice n p0.Arena.Next.length m,.slice f c.length i,.slice g d.length e] R)<|Jh4 (κ:=bg) 5 R Z210 R (c7.stp W) R λel ae c9=>⟨((T4 y V W ae).cl R),Jp1<|Jr1 [] (by kernel_rfl) (by kernel_rfl) R<|Jo<|Jw1 _ ⟨(λb=>ren [(6,4),(4,5),(5,6)]<|bg b),s,o,p,q,j,n,m,f,i,g,e,R,(Jy2 ((T5 t y V W ae).wk R) [(6,4),(4,5),(5,6)] R),((ai.stp<|T4 aR V W ae).map (ren [(6,4),(4,5),(5,6)]) R R),((af.stp<|T4 aR V W ae).map (ren [(6,4),(4,5),(5,6)]) R R),((X.stp<|T4 aR V W ae).map (ren [(6,4),(4,5),(5,6)]) R R),((c8.stp ae).map (ren [(6,4),(4,5),(5,6)]) R R),((bB.stp<|T3 V W ae).map (ren [(6,4),(4,5),(5,6)]) R R),(c9.map (ren [(6,4),(4,5),(5,6)]) R R)⟩<|KM R⟩⟩⟩
 refine Jt3 (κ:=ao) 4 R X210 R λs em bh A bp=>⟨(A.cl R),Jp1<|WA.fork2 (fuel:=3) 9 11 (by kernel_rfl) R ?_ ?_⟩
 have aS:=(T4 O D t A)
 exact Jl1 (κ:=bh) (E:=(Ep.own E6 2)) (z:=(([]:List Int):(List Int))) 5 R R R R R R R Y31 bT R R R R R (λ_ _ _=>⟨none,0,R,Ow.nil⟩) (Ju2 aw) λf i dM b0 I cs=>⟨((A.tr I).cl R),Jp1<|Jq1 (fuel:=0) [(11,1),(12,2),(14,1)] (by kernel_rfl) (by kernel_rfl) R<|Jl1 (κ:=b0) (E:=E6) (z:=(0:Int)) 6 R R R R R R R Y37 a8 R R R R R (λ_ _ _=>R) (Ju2 ax) λg e dN a6 J ct=>⟨((T3 A I J).cl R),Jf R (Ji4 [.slice o p0.Arena.Owner.length p,.slice q p0.Prio.length j,.slice n p0.Arena.Next.length m,.slice f c.length i,.slice g d.length e] R)<|Jh4 (κ:=a6) 4 R Z210 R (bp.stp<|I.tr J) R λdO Z cu=>⟨((T4 A I J Z).cl R),Jp1<|Jr1 [] (by kernel_rfl) (by kernel_rfl) R<|Jo<|Jw1 _ ⟨(λb=>ren [(5,4),(6,5),(4,6)]<|a6 b),s,o,p,q,j,n,m,f,i,g,e,R,(Jy2 ((T5 t A I J Z).wk R) [(5,4),(6,5),(4,6)] R),((ai.stp<|T4 aS I J Z).map (ren [(5,4),(6,5),(4,6)]) R R),((af.stp<|T4 aS I J Z).map (ren [(5,4),(6,5),(4,6)]) R R),((X.stp<|T4 aS I J Z).map (ren [(5,4),(6,5),(4,6)]) R R),((cs.stp<|J.tr Z).map (ren [(5,4),(6,5),(4,6)]) R R),((ct.stp Z).map (ren [(5,4),(6,5),(4,6)]) R R),(cu.map (ren [(5,4),(6,5),(4,6)]) R R)⟩<|KM R⟩⟩⟩
 have aT:=(T4 O D t A)
 exact Jl1 (κ:=bh) (E:=E6) (z:=(0:Int)) 5 R R R R R R R Y37 a8 R R R R R (λ_ _ _=>R) (Ju2 ax) λg e dP b1 K cv=>⟨((A.tr K).cl R),Jp1<|Jq1 (fuel:=0) [(9,1),(12,2),(14,1)] (by kernel_rfl) (by kernel_rfl) R<|Jl1 (κ:=b1) (E:=(Ep.own E6 2)) (z:=(([]:List Int):(List Int))) 6 R R R R R R R Y31 bT R R R R R (λ_ _ _=>⟨none,0,R,Ow.nil⟩) (Ju2 aw) λf i dQ a7 M cw=>⟨((T3 A K M).cl R),Jf R (Ji4 [.slice o p0.Arena.Owner.length p,.slice q p0.Prio.length j,.slice n p0.Arena.Next.length m,.slice f c.length i,.slice g d.length e] R)<|Jh4 (κ:=a7) 4 R Z210 R (bp.stp<|K.tr M) R λdR aa cx=>⟨((T4 A K M aa).cl R),Jp1<|Jr1 [] (by kernel_rfl) (by kernel_rfl) R<|Jo<|Jw1 _ ⟨(λb=>ren [(6,4),(4,6)]<|a7 b),s,o,p,q,j,n,m,f,i,g,e,R,(Jy2 ((T5 t A K M aa).wk R) [(6,4),(4,6)] R),((ai.stp<|T4 aT K M aa).map (ren [(6,4),(4,6)]) R R),((af.stp<|T4 aT K M aa).map (ren [(6,4),(4,6)]) R R),((X.stp<|T4 aT K M aa).map (ren [(6,4),(4,6)]) R R),((cw.stp aa).map (ren [(6,4),(4,6)]) R R),((cv.stp<|M.tr aa).map (ren [(6,4),(4,6)]) R R),(cx.map (ren [(6,4),(4,6)]) R R)⟩<|KM R⟩⟩⟩
 rintro _ bW ⟨aM,s,aG,ar,aH,aI,aF,aE,G,F,ah,ag,rfl,aA,cy,cB,cD,cF,cG,bu⟩
 refine Jp<|Jq<|Je3 R ?_
 have dc:(p0.Prio.length:Int)<=9223372036854775807:=af.len_le
 refine Ob h λbI dp da=>?_
 clear h
 refine Jo3 [2,4] (λE L w'=>∃κ',∃al:(List<|List Int)×(List Int),L=E/\Stp [4,5,8] aM bW κ' w'/\Oc (Ep.own E6 2) 37 κ' w' 4 G F al.1/\((⟨p0.Arena.Owner,p0.Prio,p0.Arena.Next,c,d⟩:l7Game).prev).length=al.1.length/\Oc E6 2 κ' w' 5 ah ag al.2/\((⟨p0.Arena.Owner,p0.Prio,p0.Arena.Next,c,d⟩:l7Game).pick).length=al.2.length/\bI=eg al) ?_ ?_
 refine Jv<|Jp3 [1,2,3,4] (λk E L w'=>∃κ' u,∃C:(List<|List Int)×(List Int),L=(5,vi u)::E/\Stp [4,5,8] aM bW κ' w'/\Oc (Ep.own E6 2) 37 κ' w' 4 G F C.1/\((⟨p0.Arena.Owner,p0.Prio,p0.Arena.Next,c,d⟩:l7Game).prev).length=C.1.length/\Oc E6 2 κ' w' 5 ah ag C.2/\((⟨p0.Arena.Owner,p0.Prio,p0.Arena.Next,c,d⟩:l7Game).pick).length=C.2.length/\0<=u/\n6 ((p0.Prio.length:Int)-u)=k/\cntM (lB p0) k u C=some bI) ⟨_,_,⟨aM,0,(((⟨p0.Arena.Owner,p0.Prio,p0.Arena.Next,c,d⟩:l7Game).prev:(List<|List Int)),((⟨p0.Arena.Owner,p0.Prio,p0.Arena.Next,c,d⟩:l7Game).pick:(List Int))),R,Jj3,cF,R,cG,R,(by decide),(by simp),dp⟩,(KM R)⟩ ?_
 rintro k _ dT ⟨ba,u,C,rfl,ap,bq,bD,aX,a3,dd,dG,h⟩
 rcases k with _ | k
 have a2:=h;obtain⟨dt,h⟩:=cn (eg (gs C):l7Game⊕(((List (List Int))×(List Int))⊕((List (List Int))×(List Int))))
 have aj:decide (u<(p0.Prio.length:Int))=false:=Jo2 (by omega)
 refine Jq<|Je3 R<|Jw2 R aj<|Jc1<|Jt<|Jt ?_
 cases h
 have h:=a2
 refine Jb1 ?_
 cases h
 exact Jw1 _ ⟨ba,(C.1,C.2),R,ap.wk R,bq,bD,aX,a3,R⟩<|KM R
 obtain⟨dt,h,a2⟩:=BI h;unfold lB at h
 have aj:decide (u<(p0.Prio.length:Int))=true:=Jn2 (by omega)
 refine Jq<|Je3 R<|Jv2 R aj<|Js<|Jp<|Jq<|Jv<|Je [2,1,2,2,1] R<|Jd3 R U210 R Z37 ?_
 have br:=bu.stp ap
 refine Jb3 R I37 (br.ld 4 R R)<|Jn 1 R<|Ob h λen ds h=>Jf R (Jf2 aX.rdc ds U37 Z2 R R a3 R)<|Ob h λbY bH h=>Jk1 (κ:=ba) (E:=E6) 5 [] R R R R R R R R Z2 R R R R aX bH λbX aN aq cC=>Tv<|?_
 have di:((⟨p0.Arena.Owner,p0.Prio,p0.Arena.Next,c,d⟩:l7Game).pick).length=bY.length:=a3.trans (Jt2 bH).2.2.2.symm
 refine Jd<|Je3 R<|Ob h λbJ dq db=>?_
 clear h
 refine Jo3 [1,2,3,4,5] (λE L w'=>∃κ',∃az:Int×(List<|List Int),L=E/\Stp [4,8] aN bX κ' w'/\Oc (Ep.own E6 2) 37 κ' w' 4 G F az.2/\((⟨p0.Arena.Owner,p0.Prio,p0.Arena.Next,c,d⟩:l7Game).prev).length=az.2.length/\bJ=eg az) ?_ ?_
 refine Jv<|Jp3 [1,2,3,4,5] (λk E L w'=>∃κ',∃H:Int×(List<|List Int),L=(6,vi H.1)::E/\Stp [4,8] aN bX κ' w'/\Oc (Ep.own E6 2) 37 κ' w' 4 G F H.2/\((⟨p0.Arena.Owner,p0.Prio,p0.Arena.Next,c,d⟩:l7Game).prev).length=H.2.length/\bU (lC p0 u) k H=some bJ) ⟨_,_,⟨aN,((0:Int),C.1),R,Jj3,(bq.stp aq),bD,dq⟩,(KM R)⟩ ?_
 rintro k _ du ⟨an,H,rfl,au,aY,Y,h⟩
 rcases k with _ | k
 cases h
 obtain⟨dI,h,bC⟩:=BI h;unfold lC at h
 refine Jq<|Jg3 [2,2,2,1,2,2,1,2,2] 1 R<|Jd3 R U79 R Z75<|Jd3 R U75 R Z31 ?_
 have bs:=a1.stp (T4 aA ap aq au)
 refine Jb3 R I31 (bs.ld 1 R R)<|Jn 1 R<|Ob h λdw bE h=>Jc3 R X bE U31 Z37 ?_
 have aZ:=X.stp (T6 O D aA ap aq au)
 obtain⟨dz,dJ,dE,de⟩:=aZ.gSl bE
 refine Jb3 R I37 de<|Jn3 R U37 R R<|Jb 1 R ?_
 revert h
 cases dH:decide (H.1<(dw.length:Int))
 refine JF λh=>Jy R<|Jc1<|Jt<|Jt ?_
 cases h
 have h:=bC
 refine Jb1 ?_
 cases h
 exact Jw1 _ ⟨an,(H.1,H.2),R,au.wk R,aY,Y,R⟩<|KM R
 refine JT λh=>Jx R<|Js<|Jp<|Jq<|Jv<|Je [2,2,1,2,2,1,2,2,1,2] R<|Jd3 R U79 R Z75<|Jd3 R U75 R Z31<|Jb3 R I31 (bs.ld 1 R R)<|Jn 1 R<|Ob h λeo bF h=>Jc3 R aZ bF U31 Z37 ?_
 obtain⟨dA,dK,bt,df⟩:=aZ.gSl bF
 refine Jb3 R I37 df<|Jn 1 R<|Ob h λep bG h=>Jc3 R bt bG U37 Z2<|Jb3 R I2 (bt.gInt bG)<|Jb 1 R<|Ob h λeq ay h=>Ob h λer a4 h=>Ob h λes a5 h=>Ob h λam ak h=>Jo3 [1,2,3,4,5,6] (λE L w'=>∃κ',L=E/\Stp [4,8] an du κ' w'/\Oc (Ep.own E6 2) 37 κ' w' 4 G F am/\((⟨p0.Arena.Owner,p0.Prio,p0.Arena.Next,c,d⟩:l7Game).prev).length=am.length) ?_ ?_
 refine WC.rxt (κ:=an) [0,4,6] (some 10) (by kernel_rfl) λdW av=>Jq1 (fuel:=5) [(0,2),(2,2),(3,2),(5,2),(8,2),(4,0),(6,2),(7,0)] (by kernel_rfl) (by kernel_rfl) R<|Jd3 R U210 R Z31<|Jn 1 R<|Jd3 R U210 R Z31<|Jn 2 R ?_
 have aJ:=br.stp (T3 aq au av)
 refine Jg R (Jc2 I31 R R<|hvC (aJ.ld 3 R R) R)<|Jf R (Jf2 aY.rdc ay U31 Z37 R R Y R) ?_
 have aK:=aY.stp av
 obtain⟨dB,dL,dF,aL⟩:=aK.rdc.gSl ay
 refine Jg R (Jc2 I37 R R<|hvC aL R)<|Jp1<|WA.fork2 (fuel:=4) 1 9 (by kernel_rfl) R ?_ ?_
 refine Jb4 (Cl.refl _ _ _) R (Jc2 I31 R R<|hvE<|aJ.ld 3 R R)<|Jp1<|Jq1 (fuel:=3) [(9,1)] (by kernel_rfl) (by kernel_rfl) R<|Jd4 (κ:=an) 7 [u] R Y37 a8 R λcq cr dX dx aC cI=>⟨(aC.cl R),Jp1<|WA.brk (fuel:=2) 10 (by kernel_rfl) R (by kernel_rfl) ?_⟩
 have bv:=aK.stp aC
 obtain⟨b4,bj,cJ,cK⟩:=bv.borrow ay (aL _ (Stp.ag aC R)) 8 R R
 refine Jy3 (κ:=b4) (E:=E6) 8 [] R Y37 a8 R cJ (Sl.srcP (co _) (cI.stp bj).rdc) bZ a4 R λbn bo dZ b6 bk cL=>Tv<|Jp1<|Jq1 (fuel:=0) [(11,2),(12,1)] (by kernel_rfl) (by kernel_rfl) R<|Jf R (Jf2 bv.rdc a5 U31 Z37 R R Y R)<|WO.stH (κ:=b6) (E:=(Ep.own E6 2)) 4 [8] R R R R R R R R Z37 R ⟨_,_,R,cL⟩ R R (cK.stp bk) ak λd0 b7 cl cM=>Tv<|?_
 have dl:((⟨p0.Arena.Owner,p0.Prio,p0.Arena.Next,c,d⟩:l7Game).prev).length=am.length:=Y.trans (Jt2 ak).2.2.2.symm
 exact Jp1<|Jr1 [] (by kernel_rfl) (by kernel_rfl) R<|Jo<|Jw1 _ ⟨b7,R,(T5 av aC bj bk cl).wk R,cM,dl⟩<|KM R
 refine Jd4 (κ:=an) 7 [u] R Y37 a8 R λcq cr d1 dy B bw=>⟨(B.cl R),Jp1<|WA.forkB2r (fuel:=3) 1 10 (by kernel_rfl) R (by kernel_rfl) ?_ ?_⟩
 refine Jb4 (B.cl R) R (Jc2 I31 R R<|hvE ((aJ.stp B).ld 3 R R))<|Jp1<|WA.brk (fuel:=2) 10 (by kernel_rfl) R (by kernel_rfl) ?_
 have bx:=aK.stp B
 obtain⟨b8,bl,cN,cO⟩:=bx.borrow ay (aL _ (Stp.ag B R)) 8 R R
 refine Jy3 (κ:=b8) (E:=E6) 8 [] R Y37 a8 R cN (Sl.srcP (co _) (bw.stp bl).rdc) bZ a4 R λbn bo d2 b9 bm cP=>Tv<|Jp1<|Jq1 (fuel:=0) [(11,2),(12,1)] (by kernel_rfl) (by kernel_rfl) R<|Jf R (Jf2 bx.rdc a5 U31 Z37 R R Y R)<|WO.stH (κ:=b9) (E:=(Ep.own E6 2)) 4 [8] R R R R R R R R Z37 R ⟨_,_,R,cP⟩ R R (cO.stp bm) ak λd3 cc cm cQ=>Tv<|?_
 have dm:((⟨p0.Arena.Owner,p0.Prio,p0.Arena.Next,c,d⟩:l7Game).prev).length=am.length:=Y.trans (Jt2 ak).2.2.2.symm
 exact Jp1<|Jr1 [] (by kernel_rfl) (by kernel_rfl) R<|Jo<|Jw1 _ ⟨cc,R,(T5 av B bl bm cm).wk R,cQ,dm⟩<|KM R
 have bz:=aK.stp B
 obtain⟨cd,aV,cR,cS⟩:=bz.borrow ay (aL _ (Stp.ag B R)) 8 R R
 refine Jy3 (κ:=cd) (E:=E6) 8 [] R Y37 a8 R cR (Sl.srcP (co _) (bw.stp aV).rdc) bZ a4 R λbn bo d5 ce aW cT=>Tv<|Jp1<|Jq1 (fuel:=0) [(1,1),(11,2),(12,1)] (by kernel_rfl) (by kernel_rfl) R<|Jb3 R I31 ((aJ.stp<|T3 B aV aW).ld 3 R R)<|Jf R (Jf2 bz.rdc a5 U31 Z37 R R Y R)<|WO.stH (κ:=ce) (E:=(Ep.own E6 2)) 4 [8] R R R R R R R R Z37 R ⟨_,_,R,cT⟩ R R (cS.stp aW) ak λd6 cf cp cU=>Tv<|?_
 have dn:((⟨p0.Arena.Owner,p0.Prio,p0.Arena.Next,c,d⟩:l7Game).prev).length=am.length:=Y.trans (Jt2 ak).2.2.2.symm
 exact Jp1<|Jr1 [] (by kernel_rfl) (by kernel_rfl) R<|Jo<|Jw1 _ ⟨cf,R,(T5 av B aV aW cp).wk R,cU,dn⟩<|KM R
 rintro _ dV ⟨b3,rfl,ck,cH,dk⟩
 refine Jz<|Jp<|Jf3 R ?_
 cases h
 exact Jz1 λa ha=>⟨k,_,Ja3 _,⟨b3,(((IntKind.i64.wrap<|H.1+1):Int),am),R,(au.tr ck).wk R,cH,dk,bC⟩,(ha.mm R)⟩
 rintro _ dU ⟨b2,az,rfl,bi,cE,dj,rfl⟩
 have h:=yI db
 refine Jz<|Jp<|Jf3 R ?_
 have dr:cb .i64 (u+1)=u+1:=wr1 dd (Jm2 aj) dc
 rw[dr]
 have aj:=Jm2 aj
 cases h
 exact Jz1 λa ha=>⟨k,_,Ja3 _,⟨b2,u+1,(az.2,bY),R,(T3 ap aq bi).wk R,cE,dj,(cC.stp bi),di,by omega,by omega,a2⟩,(ha.mm R)⟩
 rintro _ dS ⟨a9,al,rfl,aB,cz,dg,cA,dh,rfl⟩
 have h:=yI da
 refine Jp<|Je [1,1] R<|Jb4 tv R (Jc4 (haE (bu.stp aB).cells) I210 Z210 R)<|Jh4 (κ:=a9) 3 R Z210 R (c6.stp<|aA.tr aB) R λd7 aD cV=>Tv<|Jd<|Ju<|Ja2 (l:=[.cell 2 210]) V201 (ca R cV I210 Z210 R R) R ?_
 cases h
 have aU:=(aB.tr aD)
 exact⟨(λb=>ren [(4,5),(5,6)]<|a9 b),aG,ar,aH,aI,aF,aE,G,F,ah,ag,(by simp only[dg,dh]),((hE.stp<|T5 O D aA aB aD).map (ren [(4,5),(5,6)]) R R),((cy.stp aU).map (ren [(4,5),(5,6)]) R R),((cB.stp aU).map (ren [(4,5),(5,6)]) R R),((cD.stp aU).map (ren [(4,5),(5,6)]) R R),((cz.stp aD).map (ren [(4,5),(5,6)]) R R),((cA.stp aD).map (ren [(4,5),(5,6)]) R R)⟩
theorem uC {p0:Int}  {r:(List Bool)}(h:ob p0=some r):Ret Tryz.prog 252 [vi p0] w (Pvs Ep.bool 4 κ w r):=by
 unfold ob at h
 refine Jk3 κ F252 R N252 R λhE=>Je3 R<|Jg3 [2,1,2] 1 R<|Ob h λf Q h=>Jl1 (κ:=κ) (E:=Ep.bool) (z:=(false:Bool)) 2 R R R R R R R Y178 dI R R R R R (λ_ _ _=>R) (Ju2 Q) λi o w1 g B F=>Tv<|Jb 1 R<|Jq<|Je3 R<|Ob h λ_ N h=>?_
 have H:=kN N
 refine Ob h λt M G=>?_
 clear h
 refine Jo3 [3] (λE L w'=>∃κ',∃e:(List Bool),L=E/\Stp [2] g w1 κ' w'/\Oc Ep.bool 4 κ' w' 2 i o e/\f.length=e.length/\t=eg e) ?_ ?_
 refine Jv<|Jp3 [0,3] (λk E L w'=>∃κ' b,∃d:(List Bool),L=(4,vi b)::E/\Stp [2] g w1 κ' w'/\Oc Ep.bool 4 κ' w' 2 i o d/\f.length=d.length/\0<=b/\n6 (p0-b)=k/\cntM kq k b d=some t) ⟨_,_,⟨g,0,f,R,Jj3,F,R,(by decide),(by simp),M⟩,(KM R)⟩ ?_
 rintro k _ U ⟨p,b,d,rfl,q,j,n,I,T,h⟩
 rcases k with _ | k
 have m:=h;obtain⟨S,h⟩:=cn (eg (gs d):(List Bool)⊕(((List Bool))⊕((List Bool))))
 have c:decide (b<p0)=false:=Jo2 (by omega)
 refine Jq<|Je3 R<|Jw2 R c<|Jc1<|Jt<|Jt ?_
 cases h
 have h:=m
 refine Jb1 ?_
 cases h
 exact Jw1 _ ⟨p,d,R,q.wk R,j,n,R⟩<|KM R
 obtain⟨S,h,m⟩:=BI h;unfold kq at h
 have c:decide (b<p0)=true:=Jn2 (by omega)
 refine Jq<|Je3 R<|Jv2 R c<|Js<|Jp<|Jq<|Jv<|Jh3 [2,2,2,1] 2 R<|Ob h λX P h=>Jf R (Jf2 j.rdc P U178 Z4 R R n R)<|Ob h λu s h=>Jk1 (κ:=p) (E:=Ep.bool) 2 [] R R R R R R R R Z4 R R R R j s λV v A D=>Tv<|?_
 have K:f.length=u.length:=n.trans (Jt2 s).2.2.2.symm
 refine Jo<|Jz<|Jp<|Jf3 R ?_
 have O:cb .i64 (b+1)=b+1:=wr1 I (Jm2 c) H
 rw[O]
 have c:=Jm2 c
 cases h
 exact Jz1 λa ha=>⟨k,_,Ja3 _,⟨v,b+1,u,R,(q.tr A).wk R,D,K,by omega,by omega,m⟩,(ha.mm R)⟩
 rintro _ W ⟨x,e,rfl,y,C,J,rfl⟩
 have h:=yI G
 refine Jp<|Je3 R<|Ju<|Ja2 (l:=[.tmp 2]) V252 (Jp2 R R) R ?_
 cases h
 exact⟨x,i,o,(by simp only[J]),(hE.stp<|B.tr y),C⟩
theorem nh {u A}{p0:(List Int)}{p1:Int}(n:Rd (Rp.int .i64) κ w 0 u A p0){r:(List Bool)}(h:fQ p0 p1=some r):Ret Tryz.prog 202 [.slice u p0.length A,vi p1] w (Pvs Ep.bool 4 κ w r):=by
 unfold fQ at h
 refine Jk3 κ F202 R N202 R λhE=>Je3 R<|Jg3 [2,2,1,2] 1 R<|Jn3 R U37 R R<|Ob h λf U h=>Jl1 (κ:=κ) (E:=Ep.bool) (z:=(false:Bool)) 2 R R R R R R R Y178 dI R R R R R (λ_ _ _=>R) (Ju2 U) λj q w1 g t J=>Tv<|Jb 1 R<|Jq<|Je3 R ?_
 have M:(p0.length:Int)<=9223372036854775807:=n.len_le
 refine Ob h λy Q K=>?_
 clear h
 refine Jo3 [5] (λE L w'=>∃κ',∃e:(List Bool),L=E/\Stp [2] g w1 κ' w'/\Oc Ep.bool 4 κ' w' 2 j q e/\f.length=e.length/\y=eg e) ?_ ?_
 refine Jv<|Jp3 [0,1,5] (λk E L w'=>∃κ' b,∃d:(List Bool),L=(6,vi b)::E/\Stp [2] g w1 κ' w'/\Oc Ep.bool 4 κ' w' 2 j q d/\f.length=d.length/\0<=b/\n6 ((p0.length:Int)-b)=k/\cntM (gE p0 p1) k b d=some y) ⟨_,_,⟨g,0,f,R,Jj3,J,R,(by decide),(by simp),Q⟩,(KM R)⟩ ?_
 rintro k _ X ⟨s,b,d,rfl,i,m,p,N,W,h⟩
 rcases k with _ | k
 have o:=h;obtain⟨V,h⟩:=cn (eg (gs d):(List Bool)⊕(((List Bool))⊕((List Bool))))
 have c:decide (b<(p0.length:Int))=false:=Jo2 (by omega)
 refine Jq<|Jg3 [2,2,2,2] 2 R<|Jn3 R U37 R R<|Jb 1 R<|Jw2 R c<|Jc1<|Jt<|Jt ?_
 cases h
 have h:=o
 refine Jb1 ?_
 cases h
 exact Jw1 _ ⟨s,d,R,i.wk R,m,p,R⟩<|KM R
 obtain⟨V,h,o⟩:=BI h;unfold gE at h
 have c:decide (b<(p0.length:Int))=true:=Jn2 (by omega)
 refine Jq<|Jg3 [2,2,2,2] 2 R<|Jn3 R U37 R R<|Jb 1 R<|Jv2 R c<|Js<|Jp<|Jq<|Jv<|Jh3 [2,2,2,2,2,1,2,2,2,1] 4 R<|Ob h λaa v h=>Jc3 R n v U37 Z2<|Jb3 R I2 ((n.stp<|t.tr i).gInt v)<|Jn 2 R<|Ob h λab T h=>Jf R (Jf2 m.rdc T U178 Z4 R R p R)<|Ob h λB x h=>Jk1 (κ:=s) (E:=Ep.bool) 2 [] R R R R R R R R Z4 R R R R m x λY C G I=>Tv<|?_
 have P:f.length=B.length:=p.trans (Jt2 x).2.2.2.symm
 refine Jo<|Jz<|Jp<|Jf3 R ?_
 have S:cb .i64 (b+1)=b+1:=wr1 N (Jm2 c) M
 rw[S]
 have c:=Jm2 c
 cases h
 exact Jz1 λa ha=>⟨k,_,Ja3 _,⟨C,b+1,B,R,(i.tr G).wk R,I,P,by omega,by omega,o⟩,(ha.mm R)⟩
 rintro _ Z ⟨D,e,rfl,F,H,O,rfl⟩
 have h:=yI K
 refine Jp<|Je3 R<|Ju<|Ja2 (l:=[.tmp 4]) V202 (Jp2 R R) R ?_
 cases h
 exact⟨D,j,q,(by simp only[O]),(hE.stp<|t.tr F),H⟩
theorem jO {i o}{p0:(List Int)}{p1:Int}(g:Rd (Rp.int .i64) κ w 0 i o p0){r:Int}(h:ib p0 p1=some r):Ret Tryz.prog 56 [.slice i p0.length o,vi p1] w (Pvi κ w r):=by
 unfold ib at h
 refine Jk3 κ F56 R N56 R λhE=>Je3 R<|Jq<|Je3 R ?_
 have s:(p0.length:Int)<=9223372036854775807:=g.len_le
 refine Ob h λn u j=>?_
 clear h
 refine Jx1 (λL w'=>∃κ',L=[]/\Stp [] κ w κ' w'/\n=eg ()) ?_ ?_
 refine Jv<|Jp3 [0,1] (λk E L w'=>∃κ' b,L=(5,vi b)::E/\Stp [] κ w κ' w'/\0<=b/\n6 ((p0.length:Int)-b)=k/\cntM (iG p0 p1) k b ()=some n) ⟨_,_,⟨κ,0,R,Jj3,(by decide),(by simp),u⟩,(KM R)⟩ ?_
 rintro k _ C ⟨f,b,rfl,d,t,z,h⟩
 rcases k with _ | k
 have e:=h;obtain⟨x,h⟩:=cn (eg (gs ()):Int⊕((Unit)⊕(Unit)))
 have c:decide (b<(p0.length:Int))=false:=Jo2 (by omega)
 refine Jq<|Jg3 [2,2,2,2] 2 R<|Jn3 R U37 R R<|Jb 1 R<|Jw2 R c<|Jc1<|Jt<|Jt ?_
 cases h
 have h:=e
 refine Jb1 ?_
 cases h
 exact Jw1 _ ⟨f,R,d.wk R,R⟩ KN
 obtain⟨x,h,e⟩:=BI h;unfold iG at h
 have c:decide (b<(p0.length:Int))=true:=Jn2 (by omega)
 refine Jq<|Jg3 [2,2,2,2] 2 R<|Jn3 R U37 R R<|Jb 1 R<|Jv2 R c<|Js<|Jp<|Jq<|Jv<|Jg3 [2,2,2,1,2,2] 2 R<|Ob h λy m h=>Jc3 R g m U37 Z2<|Jb3 R I2 ((g.stp d).gInt m)<|Jb 2 R ?_
 revert h
 cases A:(y==p1)
 refine JF λh=>Jy R<|Js<|Jz<|Jp<|Jf3 R ?_
 have v:cb .i64 (b+1)=b+1:=wr1 t (Jm2 c) s
 rw[v]
 have c:=Jm2 c
 cases h
 exact Jz1 λa ha=>⟨k,_,Ja3 _,⟨f,b+1,R,d.wk R,by omega,by omega,e⟩,(ha.mm R)⟩
 refine JT λh=>Jx R<|Je3 R<|Ju<|Ja1<|Jw<|Jw ?_
 cases h
 obtain rfl:=Option.some.inj e
 have h:=yL j
 refine Ja1<|Jq2<|Jw<|Ja2 (l:=[.tmp 4]) V56 (Jp2 R R) R ?_
 cases h
 exact⟨f,R,(hE.stp d)⟩
 rintro _ B ⟨p,rfl,q,rfl⟩
 have h:=yI j
 refine Jp<|Je3 R<|Ju<|Ja2 (l:=[.tmp 4]) V56 (Jp2 R R) R ?_
 cases h
 exact⟨p,R,(hE.stp q)⟩
theorem se {z B A y}{p0:Machine}{a1 ad}{p1:(List Int)}{p2:Int}{u:Int}(I:Rd (Rp.sl (Rp.int .i64)) κ w 0 z B p0.Next) (J:Rd (Rp.sl (Rp.int .i64)) κ w 0 A y p0.Out) (s:Rd (Rp.int .i64) κ w 0 a1 ad p1){r:Bool}(h:ll p0 p1 p2 u=some r):Ret Tryz.prog 204 [.agg #[.slice z p0.Next.length B,.slice A p0.Out.length y],.slice a1 p1.length ad,vi p2,vi u] w (Pvb κ w r):=by
 unfold ll at h
 refine Jk3 κ F204 R N204 R λhE=>Je [1,2] R<|Js3 (κ:=κ) 2 R λaC w1 g e ah=>Tv<|Jb 1 R<|Jq<|Jq<|Js1 (κ:=g) [0] none [(0,2),(1,2),(2,2),(4,2),(5,2),(6,2),(3,0),(7,0),(8,2)] [] (by kernel_rfl) (by kernel_rfl) λae c=>Jn 2 R<|Ob h λaq M h=>Jc3 R s M U37 Z2<|Jn 2 R<|Ob h λar N h=>Jc3 R s N U37 Z2 ?_
 have j:=s.stp (e.tr c)
 refine Jg R (Jc2 I2 R R<|hvC (j.gInt M) R)<|Jg R (Jc2 I2 R R<|hvC (j.gInt N) R)<|Jn 1 R<|Jt1<|Jd ?_
 revert h
 cases aH:(aq !=ar)
 refine JF λh=>Jy R<|Js<|Jp<|Jq<|Je3 R<|Ob h λab ao K=>?_
 clear h
 refine Jx1 (λL w'=>∃κ' ac,L=[]/\Stp [] g ae κ' w'/\ab=eg ac) ?_ ?_
 refine Jv<|Jp3 [1,2,3,4] (λk E L w'=>∃κ' f,L=(9,vi f)::E/\Stp [] g ae κ' w'/\bU (iL p0 p1 p2 u) k f=some ab) ⟨_,_,⟨g,(0:Int),R,Jj3,ao⟩,(KM R)⟩ ?_
 rintro k _ aP ⟨m,f,rfl,b,h⟩
 rcases k with _ | k
 cases h
 obtain⟨aI,h,t⟩:=BI h;unfold iL at h
 refine Jq<|Jg3 [2,2,1,2,2,1,2,2] 1 R<|Jd3 R U33 R Z31 ?_
 have C:=ah.stp (c.tr b)
 refine Jb3 R I31 (C.ld 0 R R)<|Jn 1 R<|Ob h λau O h=>Jc3 R I O U31 Z37 ?_
 have n:=I.stp (T3 e c b)
 obtain⟨ax,aJ,aD,aj⟩:=n.gSl O
 refine Jb3 R I37 aj<|Jn3 R U37 R R<|Jb 1 R ?_
 revert h
 cases aE:decide (f<(au.length:Int))
 refine JF λh=>Jy R<|Jc1<|Jt<|Jt ?_
 cases h
 have h:=t
 refine Jb1 ?_
 cases h
 exact Jw1 _ ⟨m,f,R,b.wk R,R⟩ KN
 refine JT λh=>Jx R<|Js<|Jp<|Jq<|Jv<|Jq<|Js1 (κ:=m) [0,2] none [(0,2),(2,2),(5,2),(8,2),(10,2),(13,2),(1,0),(3,2),(4,0),(6,2),(7,0),(9,0),(11,2),(12,0),(14,2),(15,0),(16,2),(17,2),(18,2),(19,2),(21,2),(24,2),(29,2),(30,2),(32,2),(35,2),(20,0),(22,2),(23,0),(25,2),(26,0),(27,2),(28,0),(31,0),(33,2),(34,0),(36,2),(37,0),(38,2),(39,0),(40,2),(41,2)] [] (by kernel_rfl) (by kernel_rfl) λap d=>Jd3 R U33 R Z31<|Jn 2 R<|Jd3 R U33 R Z31<|Jn 2 R ?_
 have i:=C.stp d
 refine Jg R (Jc2 I31 R R<|hvC (i.ld 1 R R) R)<|Ob h λaR P h=>Jc3 R J P U31 Z37 ?_
 have o:=J.stp (T4 e c b d)
 obtain⟨ay,aK,D,ak⟩:=o.gSl P
 refine Jg R (Jc2 I37 R R<|hvC ak R)<|Ob h λav Q h=>Jc3 R D Q U37 Z2<|Jg R (Jc2 I2 R R<|hvC (D.gInt Q) R)<|Jg R (Jc2 I31 R R<|hvC (i.ld 1 R R) R)<|Ob h λaS S h=>Jc3 R o S U31 Z37 ?_
 obtain⟨az,aL,F,al⟩:=o.gSl S
 refine Jg R (Jc2 I37 R R<|hvC al R)<|Ob h λaw T h=>Jc3 R F T U37 Z2<|Jg R (Jc2 I2 R R<|hvC (F.gInt T) R)<|Jn 2 R<|Ob h λaa h ai=>Jf4 [1,2,3,4,9] 70 aa m ap [(18,2),(19,2),(21,2),(24,2),(29,2),(30,2),(32,2),(35,2),(20,0),(22,2),(23,0),(25,2),(26,0),(27,2),(28,0),(31,0),(33,2),(34,0),(36,2),(37,0),(38,2),(39,0),(40,2),(41,2)] [] (Cl.refl _ _ _) ?_ ?_
 revert h
 cases aF:(av !=aw)
 refine JF λh=>Jn 1 R<|Jd3 R U33 R Z31<|Jn 3 R<|Jd3 R U33 R Z31<|Jn 2 R<|Jg R (Jc2 I31 R R<|hvC (i.ld 0 R R) R)<|Ob h λaT U h=>Jc3 R n U U31 Z37 ?_
 have p:=n.stp d
 obtain⟨aA,aM,G,am⟩:=p.gSl U
 refine Jg R (Jc2 I37 R R<|hvC am R)<|Ob h λaU V h=>Jc3 R G V U37 Z2<|Jg R (Jc2 I2 R R<|hvC (G.gInt V) R)<|Ob h λaV W h=>Jc3 R j W U37 Z2 ?_
 have q:=j.stp (b.tr d)
 refine Jg R (Jc2 I2 R R<|hvC (q.gInt W) R)<|Jg R (Jc2 I31 R R<|hvC (i.ld 0 R R) R)<|Ob h λaW X h=>Jc3 R p X U31 Z37 ?_
 obtain⟨aB,aN,H,an⟩:=p.gSl X
 refine Jg R (Jc2 I37 R R<|hvC an R)<|Ob h λaX Y h=>Jc3 R H Y U37 Z2<|Jg R (Jc2 I2 R R<|hvC (H.gInt Y) R)<|Ob h λaY Z h=>Jc3 R q Z U37 Z2<|Jg R (Jc2 I2 R R<|hvC (q.gInt Z) R)<|Jn 2 R ?_
 cases h
 exact Jv1 _ (Cl.refl _ _ _) ⟨R,_,Jj3⟩<|KM R
 refine JT λh=>Jn 8 R<|Ja4 R<|Jn 1 R<|Ja4 R<|Jn 1 R<|Ja4 R<|Jn 1 R<|Ja4 R<|Ja4 R<|Jn 1 R<|Ja4 R<|Jn 1 R<|Ja4 R<|Jn 1 R<|Ja4 R<|Jn 2 R ?_
 cases h
 exact Jv1 _ (Cl.refl _ _ _) ⟨R,_,Jj3⟩<|KM R
 rintro _ aQ _ ⟨rfl,v,x⟩
 have h:=ai
 refine Jt1<|Jd ?_
 revert h
 cases aG:aa
 refine JF λh=>Jy R<|Js<|Jz<|Jp<|Jf3 R ?_
 cases h
 exact Jz1 λa ha=>⟨k,_,Ja3 _,⟨v,((IntKind.i64.wrap<|f+1):Int),R,(T3 b d x).wk R,t⟩,(ha.mm R)⟩
 refine JT λh=>Jx R<|Je3 R<|Ju<|Ja1<|Jw<|Jw ?_
 cases h
 obtain rfl:=Option.some.inj t
 have h:=yL K
 refine Ja1<|Jq2<|Jw<|Ja2 (l:=[.tmp 8]) V204 (Jp2 R R) R ?_
 cases h
 exact⟨v,R,(hE.stp<|T5 e c b d x)⟩
 rintro _ aO ⟨af,ac,rfl,ag,rfl⟩
 have h:=yI K
 refine Jp<|Je3 R<|Ju<|Ja2 (l:=[.tmp 8]) V204 (Jp2 R R) R ?_
 cases h
 exact⟨af,R,(hE.stp<|T3 e c ag)⟩
 refine JT λh=>Jx R<|Je3 R<|Ju<|Jw<|Ja2 (l:=[.tmp 8]) V204 (Jp2 R R) R ?_
 cases h
 exact⟨g,R,(hE.stp<|e.tr c)⟩
theorem n9 {F I s p j f g i}{p0:l30Graph}{p1:Int}{p2:Int}{J}(x:Oc E6 2 κ w 2 F I p0.of) (y:Oc E6 2 κ w 3 s p p0.by0) (aD:Rd (Rp.sl (Rp.int .i64)) κ w 0 j f p0.next) (aE:Rd (Rp.sl (Rp.int .i64)) κ w 0 g i p0.letters) (K:Bc κ w 4 J 216 [.slice F p0.of.length I,.slice s p0.by0.length p,.slice j p0.next.length f,.slice g p0.letters.length i]){r:Int×(List Int)×(List Int)}(h:jf p0 p1 p2=some r):Ret Tryz.prog 254 [.pointer (some ⟨J,0,none⟩),vi p1,vi p2] w (λv w'=>∃(κ':Col) (Z:Option Addr) (ab:Nat) (aa:Option Addr) (ac:Nat),v=vi r.1/\Ent κ w κ' w'/\Oc E6 2 κ' w' 2 Z ab r.2.1/\Oc E6 2 κ' w' 3 aa ac r.2.2/\Bc κ' w' 4 J 216 [.slice Z r.2.1.length ab,.slice aa r.2.2.length ac,.slice j p0.next.length f,.slice g p0.letters.length i]):=by
 unfold jf at h
 refine Jk3 κ F254 R N254 R λhE=>Je3 R<|Jq<|Je3 R ?_
 have ao:(p0.of.length:Int)<=9223372036854775807:=x.len_le
 refine Ob h λae aq W=>?_
 clear h
 refine Jo3 [0,1,2] (λE L w'=>∃κ',L=E/\Stp [] κ w κ' w'/\ae=eg ()) ?_ ?_
 refine Jv<|Jp3 [0,1,2] (λk E L w'=>∃κ' b,L=(7,vi b)::E/\Stp [] κ w κ' w'/\0<=b/\n6 ((p0.of.length:Int)-b)=k/\cntM (iN p0 p1 p2) k b ()=some ae) ⟨_,_,⟨κ,0,R,Jj3,(by decide),(by simp),aq⟩,(KM R)⟩ ?_
 rintro k _ ax ⟨Q,b,rfl,c,ap,aF,h⟩
 rcases k with _ | k
 have z:=h;obtain⟨aw,h⟩:=cn (eg (gs ()):(Int×(List Int)×(List Int))⊕((Unit)⊕(Unit)))
 have d:decide (b<(p0.of.length:Int))=false:=Jo2 (by omega)
 refine Jq<|Jg3 [2,2,2,2,1,2,2] 2 R<|Jf R (bY R R)<|Jd3 R U216 R Z37<|Jb3 R I37 ((K.stp c).ld 0 R R)<|Jn3 R U37 R R<|Jb 1 R<|Jw2 R d<|Jc1<|Jt<|Jt ?_
 cases h
 have h:=z
 refine Jb1 ?_
 cases h
 exact Jw1 _ ⟨Q,R,c.wk R,R⟩<|KM R
 obtain⟨aw,h,z⟩:=BI h;unfold iN at h
 have d:decide (b<(p0.of.length:Int))=true:=Jn2 (by omega)
 refine Jq<|Jg3 [2,2,2,2,1,2,2] 2 R<|Jf R (bY R R)<|Jd3 R U216 R Z37 ?_
 have u:=K.stp c
 refine Jb3 R I37 (u.ld 0 R R)<|Jn3 R U37 R R<|Jb 1 R<|Jv2 R d<|Js<|Jp<|Jq<|Jv<|Jg3 [2,2,2,1,2,2,1,2,2,2,2,2,2,1,2,2,1,2,2,2] 1 R<|Jf R (bY R R)<|Jd3 R U216 R Z37<|Jb3 R I37 (u.ld 0 R R)<|Jn 1 R<|Ob h λay X h=>Jc3 R x.rdc X U37 Z2 ?_
 have S:=x.stp c
 refine Jb3 R I2 (S.rdc.gInt X)<|Jn 3 R<|Ob h λad h an=>Jf4 [0,1,2,7] 36 ad Q ax [(10,2),(11,2),(12,2),(13,1),(14,2),(15,2),(16,1),(17,2),(18,2),(19,2)] [] tv ?_ ?_
 revert h
 cases aG:(ay==p1)
 refine JF λh=>Jn 3 R<|Jz3 R<|Jn 2 R<|Jz3 R<|Jn 3 R ?_
 cases h
 exact Jg4 tv R
 refine JT λh=>Jn 1 R<|Jf R (bY R R)<|Jd3 R U216 R Z37<|Jb3 R I37 (u.ld 1 R R)<|Jn 1 R<|Ob h λaQ Y h=>Jc3 R y.rdc Y U37 Z2<|Jb3 R I2 ((y.stp c).rdc.gInt Y)<|Jn 3 R ?_
 cases h
 exact Jg4 tv R
 rintro _ aI _ ⟨rfl,N,e⟩
 have h:=an
 refine Jd ?_
 revert h
 cases aH:ad
 refine JF λh=>Jy R<|Js<|Jz<|Jp<|Jf3 R ?_
 have ar:cb .i64 (b+1)=b+1:=wr1 ap (Jm2 d) ao
 rw[ar]
 have d:=Jm2 d
 cases h
 exact Jz1 λa ha=>⟨k,_,Ja3 _,⟨N,b+1,R,(c.tr e).wk R,by omega,by omega,z⟩,(ha.mm R)⟩
 refine JT λh=>Jx R<|Je3 R<|Ju<|Ja1<|Jw<|Jw ?_
 cases h
 obtain rfl:=Option.some.inj z
 have h:=yL W
 refine Ja1<|Jq2<|Jw<|Ja2 (l:=[.tmp 6]) V254 (Jp2 R R) R ?_
 cases h
 exact⟨N,F,I,s,p,R,(hE.stp<|c.tr e),(S.stp e),(y.stp<|c.tr e),(u.stp e)⟩
 rintro _ aN ⟨ai,rfl,o,rfl⟩
 have h:=yI W
 refine Jp<|Jg3 [2,2,2,2,1,2,1,1,2,2,1] 2 R<|Jf R (bY R R)<|Jd3 R U216 R Z37 ?_
 have T:=K.stp o
 refine Jb3 R I37 (T.ld 0 R R)<|Jn 1 R<|Jd4 (κ:=ai) 5 [p1] R Y37 a8 R λaz aC aJ ag m aj=>Tv<|Ob h λM au h=>Jy3 (κ:=ag) (E:=E6) 2 [] R Y37 a8 R (x.stp<|o.tr m) (Sl.srcP (co _) aj.rdc) bZ au R λq t aK O A ak=>Tv<|Jf R (bY R R)<|Jd3 R U216 R Z37<|Ju3 (κ:=O) 4 (off:=0) (vc:=[.slice q M.length t]) (cs':=[.slice q M.length t,.slice s p0.by0.length p,.slice j p0.next.length f,.slice g p0.letters.length i]) R Z37 R (T.stp<|m.tr A) R λaL B U=>Tv<|Jd<|Jg3 [2,2,2,2,1,2,1,1,2,2,1] 2 R<|Jf R (bY R R)<|Jd3 R U216 R Z37<|Jb3 R I37 (U.ld 1 R R)<|Jn 1 R<|Jd4 (κ:=O) 6 [p2] R Y37 a8 R λaA aB aM ah n al=>Tv<|Ob h λaf av h=>Jy3 (κ:=ah) (E:=E6) 3 [] R Y37 a8 R (y.stp<|T5 o m A B n) (Sl.srcP (co _) al.rdc) bZ av R λH G aO P C am=>Tv<|Jf R (bY R R)<|Jd3 R U216 R Z37<|Ju3 (κ:=P) 4 (off:=1) (vc:=[.slice H af.length G]) (cs':=[.slice q M.length t,.slice H af.length G,.slice j p0.next.length f,.slice g p0.letters.length i]) R Z37 R (U.stp<|n.tr C) R λaP D V=>Tv<|Jd<|Jg3 [2,2,2,1,2,2,2] 1 R<|Jf R (bY R R)<|Jd3 R U216 R Z37<|Jb3 R I37 (V.ld 0 R R)<|Jn3 R U37 R R<|Jb 2 R<|Ju<|Ja2 (l:=[.tmp 6]) V254 (Jp2 R R) R ?_
 cases h
 exact⟨P,q,t,H,G,R,(hE.stp<|T7 o m A B n C D),(ak.stp<|T4 B n C D),(am.stp D),V⟩
theorem oP {g v}{p0:(List (List Int))}{a1 x}{p1:(List Int)}{p2:Int}(j:Rd (Rp.sl (Rp.int .i64)) κ w 0 g v p0) (m:Rd (Rp.int .i64) κ w 0 a1 x p1){r:Bool}(h:iP p0 p1 p2=some r):Ret Tryz.prog 208 [.slice g p0.length v,.slice a1 p1.length x,vi p2] w (Pvb κ w r):=by
 unfold iP at h
 refine Jk3 κ F208 R N208 R λhE=>Je3 R<|Jq<|Je3 R<|Ob h λt C n=>?_
 clear h
 refine Jx1 (λL w'=>∃κ' u,L=[]/\Stp [] κ w κ' w'/\t=eg u) ?_ ?_
 refine Jv<|Jp3 [0,1,2] (λk E L w'=>∃κ' b,L=(7,vi b)::E/\Stp [] κ w κ' w'/\bU (eQ p0 p1 p2) k b=some t) ⟨_,_,⟨κ,(0:Int),R,Jj3,C⟩,(KM R)⟩ ?_
 rintro k _ Q ⟨d,b,rfl,c,h⟩
 rcases k with _ | k
 cases h
 obtain⟨M,h,f⟩:=BI h;unfold eQ at h
 refine Jq<|Jg3 [2,2,2,2,1,2,2] 3 R<|Ob h λD o h=>Jc3 R j o U31 Z37 ?_
 have e:=j.stp c
 obtain⟨G,N,I,A⟩:=e.gSl o
 refine Jb3 R I37 A<|Jn3 R U37 R R<|Jb 1 R ?_
 revert h
 cases J:decide (b<(D.length:Int))
 refine JF λh=>Jy R<|Jc1<|Jt<|Jt ?_
 cases h
 have h:=f
 refine Jb1 ?_
 cases h
 exact Jw1 _ ⟨d,b,R,c.wk R,R⟩ KN
 refine JT λh=>Jx R<|Js<|Jp<|Jq<|Jv<|Jg3 [2,2,2,2,1,2,2,1,2,1,2] 3 R<|Ob h λS p h=>Jc3 R e p U31 Z37 ?_
 obtain⟨H,O,i,B⟩:=e.gSl p
 refine Jb3 R I37 B<|Jn 1 R<|Ob h λT q h=>Jc3 R i q U37 Z2<|Jb3 R I2 (i.gInt q)<|Ob h λF s h=>Jc3 R m s U37 Z2<|Jb3 R I2 ((m.stp c).gInt s)<|Jb 1 R ?_
 revert h
 cases K:decide (0<=F)
 refine JF λh=>Jy R<|Js<|Jz<|Jp<|Jf3 R ?_
 cases h
 exact Jz1 λa ha=>⟨k,_,Ja3 _,⟨d,((IntKind.i64.wrap<|b+1):Int),R,c.wk R,f⟩,(ha.mm R)⟩
 refine JT λh=>Jx R<|Je3 R<|Ju<|Ja1<|Jw<|Jw ?_
 cases h
 obtain rfl:=Option.some.inj f
 have h:=yL n
 refine Ja1<|Jq2<|Jw<|Ja2 (l:=[.tmp 6]) V208 (Jp2 R R) R ?_
 cases h
 exact⟨d,R,(hE.stp c)⟩
 rintro _ P ⟨y,u,rfl,z,rfl⟩
 have h:=yI n
 refine Jp<|Je3 R<|Ju<|Ja2 (l:=[.tmp 6]) V208 (Jp2 R R) R ?_
 cases h
 exact⟨y,R,(hE.stp z)⟩
end Go.Proofs.YtleekpaohfpooaaGreat
