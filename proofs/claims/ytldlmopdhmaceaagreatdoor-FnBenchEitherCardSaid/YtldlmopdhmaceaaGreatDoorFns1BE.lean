/- The walks, part 1. By program. -/
import Derived.Test.YtldlmopdhmaceaaGreatDoorFnsMBE
import Derived.Test.YtldlmopdhmaceaaGreatDoorAlBE
set_option linter.unusedVariables false
set_option linter.unusedSimpArgs false
open Go.Wk.Ep renaming own → FU
open Int renaming toNat → FV
open Go.IntKind renaming wrap → FW
open Go.Wk.Sl renaming srcP → FY
open Sum renaming inr → FX
namespace Go.Proofs.YtldlmopdhmaceaaGreatDoor
open Tryz
open Go Go.Wk Go.Proofs
set_option maxRecDepth 100000
set_option maxHeartbeats 1000000
section
variable {w:World}{J:Col}
theorem kh {a b}{p0:dice}{p1:Int}{e}(m:Rd (Rp.int .u8) J w 0 a b p0.b) (n:Bc J w 2 e 41 [.slice a p0.b.length b,vi p0.i,.int .u64 p0.h]){r:Int×Int×Int}(h:gR p0 p1=some r):Ret prog 12 [.pointer (some ⟨e,0,none⟩),vi p1] w (λB c=>∃d,B=vi r.1/\Ent J w d c/\Bc d c 2 e 41 [.slice a p0.b.length b,vi r.2.1,.int .u64 r.2.2]):=by
 refine Jp3 J func12 R ntmps12 R λD=>Jf3 R<|Jl3 2 R<|Jf R (bX R R)<|Je3 R U41 R Z26<|Jc3 R isAgg26 (n.ld 2 R R)<|Jn 2 R<|Jf R (bX R R)<|Je3 R U41 R Z26<|Jz3 J 2 (off:=2) (vc:=[.int .u64 (FW .u64 ((FW .u64<|p0.h * 6364136223846793005)+1442695040888963407))]) (cs':=[.slice a p0.b.length b,vi p0.i,.int .u64 (FW .u64 ((FW .u64<|p0.h * 6364136223846793005)+1442695040888963407))]) R Z26 R n R λ_ u k=>Tv<|Jd<|Jl3 1 R<|Jf R (bX R R)<|Je3 R U41 R Z26<|Jc3 R isAgg26 (k.ld 2 R R)<|Jf R (ED R R R (by decide))<|Jn 1 R<|Jf R (Ji2 U26 U2 R R)<|Jb 1 R<|Jq<|Jq<|Xn J [2] [2,5,8,14,17,20,9,21,26,29] λC j=>Jn 1 R<|Jf R (bX R R)<|Je3 R U41 R Z3<|Jn 1 R<|Jf R (bX R R)<|Je3 R U41 R sizeOf22 (have g:=k.stp j;Jg R (Jd2 I3 R R<|hvC (g.ld 1 R R) R) (Jg R (Jd2 isAgg22 R R<|hvC (g.ld 0 R R) R)<|Js3 R U22 R R<|Jn 1 R<|Jt1<|Jd<|Ob h λp h y=>Jt3 [0,1] (λq t c=>∃d,t=(5,vi p.1)::q/\Stp [2] J C d c/\Bc d c 2 e 41 [.slice a p0.b.length b,vi p.2,.int .u64 (FW .u64 ((FW .u64<|p0.h * 6364136223846793005)+1442695040888963407))]) ?_ ?_))
 exact Bk h (λz h=>Jy R<|Js<|Oh h<|Jw1 _ ⟨J,R,Jo3,g⟩<|KM R) (λz h=>Jx R<|Jq<|Xn J [0,2] [2,5,8,11,17,20,23,12,24,29,30,35,38,41] λ_ i=>Jn 2 R<|Jf R (bX R R)<|Je3 R U41 R sizeOf22<|Jn 1 R<|Jf R (bX R R)<|Je3 R U41 R Z3 (have f:=g.stp i;Jg R (Jd2 isAgg22 R R<|hvC (f.ld 0 R R) R) (Jg R (Jd2 I3 R R<|hvC (f.ld 1 R R) R)<|Ob h λ_ o h=>Jd3 R m o U22 sizeOf5<|Jg R (Jd2 isAgg5 R R<|hvC ((m.stp<|T3 u j i).gInt o) R)<|Jf R (Ji2 U5 U2 R R)<|Jn 2 R<|Jt1<|Jd<|Jm3 2 R<|Jf R (bX R R)<|Je3 R U41 R Z3<|Jc3 R I3 (f.ld 1 R R)<|Jn 1 R<|Jf R (bX R R)<|Je3 R U41 R Z3<|Jz3 J 2 (off:=1) (vc:=[vi<|FW .i64<|p0.i+1]) (cs':=[.slice a p0.b.length b,vi (FW .i64<|p0.i+1),.int .u64 (FW .u64 ((FW .u64<|p0.h * 6364136223846793005)+1442695040888963407))]) R Z3 R f R λ_ _ x=>Tv<|Jo<|Oh h<|Jw1 _ ⟨J,R,Fct,x⟩<|KM R)))
 rintro _ _ ⟨s,rfl,_,v⟩
 exact Jp<|Jl3 2 R<|Ob y λ_z55 A h=>Jf R (rT R R R<|DM A)<|Jb 1 R<|Ju<|Jb2 (l:=[.tmp 4]) results12 (Jq2 R R) R<|Oh h<|⟨s,R,Fct,v⟩
theorem fH {p0:Int}  {r:Int}(h:ff p0=some r):Ret prog 47 [vi p0] w (Pvi J w r):=by
 refine Jp3 J func47 R ntmps47 R λp=>Jf3 R<|Jf3 R<|Jq<|Ob h λj n m=>Jx1 (λc e=>∃f,∃d:Int×Int,c=[(3,vi d.2)]/\Stp [] J w f e/\j=FX d) (Jv<|Jy1 (λb c e=>∃f,∃a:Int×Int,c=[(0,vi a.1),(3,vi a.2)]/\Stp [] J w f e/\ci ig b a=some j) ⟨_,_,⟨J,(p0,(1:Int)),R,Jo3,n⟩,(KM R)⟩ ?_) ?_
 rintro b _ _ ⟨g,a,rfl,_,h⟩
 rcases b with _|b
 cases h
 refine Ob h λ_ h i=>Jq<|Jf3 R ?_
 refine Bk h (λo h=>Jy R<|Jc1<|Jt<|Jt ?_) (λo h=>Jx R<|Js<|Jp<|Jq<|Jv<|Jg3 R<|Jz<|Jp<|Jg3 R ?_)
 cases h
 exact have h:=i;Jb1 (Oh h<|Jw1 _ ⟨g,(a.1,a.2),R,Fct,R⟩<|KM R)
 cases h
 exact Ja2 ⟨g,(((FW .i64<|a.1-1):Int),((FW .i64<|a.2 * 2):Int)),R,Fct,i⟩ R
 rintro _ _ ⟨k,d,rfl,_,rfl⟩
 exact have h:=yI m;Jp (Jf3 R<|Ju<|Jb2 (l:=[.tmp 2]) results47 (Jq2 R R) R<|Oh h<|⟨k,R,Fct⟩)
theorem qW {p0:Int}  {r:Bool}(h:pz p0=some r):Ret prog 17 [vi p0] w (Pvb J w r):=by
 refine Jp3 J func17 R ntmps17 R λk=>Jf3 R<|Jl3 3 R<|Ob h λi h c=>Jk4 [0,2] 8 i J w 3 tv ?_ ?_
 exact Bk h (λe h=>Jn 3 R<|Oh h<|Jl4 tv R) (λe h=>Jn 3 R<|Oh h<|Jl4 tv R)
 rintro _ j _ ⟨rfl,a,_⟩
 refine Jn 1 R<|Ob c λg h d=>Jk4 [2] 12 g a j 3 tv ?_ ?_
 exact Bk h (λf h=>Jn 3 R<|Oh h<|Jl4 tv R) (λf h=>Jn 3 R<|Oh h<|Jl4 tv R)
 rintro _ _ _ ⟨rfl,b,_⟩
 exact have h:=d;Jb 1 R (Ju<|Jb2 (l:=[.tmp 2]) results17 (Jq2 R R) R<|Oh h<|⟨b,R,Fct⟩)
theorem uZ  {r:(List ByteArray)}(h:qc  =some r):Ret prog 15 [] w (Pvs Ep.str 9 J w r):=by
 unfold qc at h
 exact Jp3 J func15 R ntmps15 R λe=>Jf3 R<|Jj3<|Jb4 J Ep.str 2 [] (parts:=[(0,.const (.string (ByteArray.mk #[97,108,119,97,121,115]))),(1,.const (.string (ByteArray.mk #[110,101,120,116]))),(2,.const (.string (ByteArray.mk #[97,110,115,119,101,114]))),(3,.const (.string (ByteArray.mk #[111,102,116,101,110]))),(4,.const (.string (ByteArray.mk #[115,116,97,121,115]))),(5,.const (.string (ByteArray.mk #[111,110,99,101]))),(6,.const (.string (ByteArray.mk #[102,97,105,114])))]) (cells:=[.string (ByteArray.mk #[97,108,119,97,121,115]),.string (ByteArray.mk #[110,101,120,116]),.string (ByteArray.mk #[97,110,115,119,101,114]),.string (ByteArray.mk #[111,102,116,101,110]),.string (ByteArray.mk #[115,116,97,121,115]),.string (ByteArray.mk #[111,110,99,101]),.string (ByteArray.mk #[102,97,105,114])]) (xs:=([(ByteArray.mk #[97,108,119,97,121,115]),(ByteArray.mk #[110,101,120,116]),(ByteArray.mk #[97,110,115,119,101,114]),(ByteArray.mk #[111,102,116,101,110]),(ByteArray.mk #[115,116,97,121,115]),(ByteArray.mk #[111,110,99,101]),(ByteArray.mk #[102,97,105,114])]:List ByteArray)) R Y33 dx R ⟨[.string (ByteArray.mk #[97,108,119,97,121,115])],[.string (ByteArray.mk #[110,101,120,116]),.string (ByteArray.mk #[97,110,115,119,101,114]),.string (ByteArray.mk #[111,102,116,101,110]),.string (ByteArray.mk #[115,116,97,121,115]),.string (ByteArray.mk #[111,110,99,101]),.string (ByteArray.mk #[102,97,105,114])],Zl J w [],Zl J w [],R,Zl.sp (l1:=[]) (l2:=[]) R,Zl.sr (l1:=[]) (l2:=[]),R,⟨[.string (ByteArray.mk #[110,101,120,116])],[.string (ByteArray.mk #[97,110,115,119,101,114]),.string (ByteArray.mk #[111,102,116,101,110]),.string (ByteArray.mk #[115,116,97,121,115]),.string (ByteArray.mk #[111,110,99,101]),.string (ByteArray.mk #[102,97,105,114])],Zl J w [],Zl J w [],R,Zl.sp (l1:=[]) (l2:=[]) R,Zl.sr (l1:=[]) (l2:=[]),R,⟨[.string (ByteArray.mk #[97,110,115,119,101,114])],[.string (ByteArray.mk #[111,102,116,101,110]),.string (ByteArray.mk #[115,116,97,121,115]),.string (ByteArray.mk #[111,110,99,101]),.string (ByteArray.mk #[102,97,105,114])],Zl J w [],Zl J w [],R,Zl.sp (l1:=[]) (l2:=[]) R,Zl.sr (l1:=[]) (l2:=[]),R,⟨[.string (ByteArray.mk #[111,102,116,101,110])],[.string (ByteArray.mk #[115,116,97,121,115]),.string (ByteArray.mk #[111,110,99,101]),.string (ByteArray.mk #[102,97,105,114])],Zl J w [],Zl J w [],R,Zl.sp (l1:=[]) (l2:=[]) R,Zl.sr (l1:=[]) (l2:=[]),R,⟨[.string (ByteArray.mk #[115,116,97,121,115])],[.string (ByteArray.mk #[111,110,99,101]),.string (ByteArray.mk #[102,97,105,114])],Zl J w [],Zl J w [],R,Zl.sp (l1:=[]) (l2:=[]) R,Zl.sr (l1:=[]) (l2:=[]),R,⟨[.string (ByteArray.mk #[111,110,99,101])],[.string (ByteArray.mk #[102,97,105,114])],Zl J w [],Zl J w [],R,Zl.sp (l1:=[]) (l2:=[]) R,Zl.sr (l1:=[]) (l2:=[]),R,⟨[.string (ByteArray.mk #[102,97,105,114])],[],Zl J w [],Zl J w [],R,Zl.sp (l1:=[]) (l2:=[]) R,Zl.sr (l1:=[]) (l2:=[]),R,R⟩⟩⟩⟩⟩⟩⟩ λb d _ a _ c=>Tv<|Jb 1 R<|Ju<|Jb2 (l:=[.tmp 0]) results15 (Jq2 R R) R<|Oh h<|⟨a,b,d,R,Fct,c⟩
theorem zu {p0:Int}  {r:ByteArray}(h:An p0=some r):Ret prog 28 [vi p0] w (λI a=>∃b,I= .string r/\Ent J w b a):=by
 refine Jp3 J func28 R ntmps28 R λQ=>Jf3 R<|Jf3 R<|Jf3 R<|Jq<|Ob h λn z x=>Jt3 [4] (λe c a=>∃b,∃k:Int×ByteArray,c=(3,.string k.2)::e/\Stp [] J w b a/\n=FX k) (Jv<|Ju3 [4] (λg e c a=>∃b,∃d:Int×ByteArray,c=(0,vi d.1)::(3,.string d.2)::e/\Stp [] J w b a/\ci uv g d=some n) ⟨_,_,⟨J,(p0,((ByteArray.mk #[]):ByteArray)),R,Jo3,z⟩,(KM R)⟩ ?_) ?_
 rintro g _ M ⟨s,d,rfl,_,h⟩
 rcases g with _|g
 cases h
 refine Ob h λ_ h m=>Jq<|Jh3 [2,2,2,2,2,2] 1 R<|Jf R (cR R R R)<|Jn 1 R<|Ob h λG h u=>Jk4 [0,3,4] 13 G s M 3 tv ?_ ?_
 exact Bk h (λA h=>Jn 3 R<|Oh h<|Jl4 tv R) (λA h=>Jn 3 R<|Oh h<|Jl4 tv R)
 rintro _ K _ ⟨rfl,f,_⟩
 refine have h:=u;Jd ?_
 refine Bk h (λB h=>Jy R<|Jc1<|Jt<|Jt ?_) (λB h=>Jx R<|Js<|Jp<|Jv<|Jh3 [2,2,2] 1 R<|Jf R (rT R R R<|show ¬(10:Int)=0 by decide) (Jb 1 R<|Jq<|Jf3 R<|Ob h λj h v=>Jt3 [0,3,4] (λe c a=>∃b,c=(5,vi j)::e/\Stp [] f K b a) ?_ ?_))
 cases h
 exact have h:=m;Jb1 (Oh h<|Jw1 _ ⟨f,(d.1,d.2),R,Fct,R⟩<|KM R)
 exact Bk h (λC h=>Jy R<|Js<|Oh h<|Jw1 _ ⟨f,R,Jo3⟩<|KM R) (λC h=>Jx R<|Ji3 [2,2,2] 1 R<|Jf R (BZ R R)<|Jc 1 R<|Oh h<|Jw1 _ ⟨f,R,Jo3⟩<|KM R)
 rintro _ _ ⟨o,rfl,_⟩
 refine have h:=v;Jp (Jh3 [2,2,2,1,1,2,2,2] 2 R<|Jf R (Ji2 U2 U5 R R)<|Jb4 o (Ep.int .u8) 2 [] (parts:=[(0,.tmp 22)]) (cells:=[.int .u8 (FW .u8<|FW .i64 (48+j))]) (xs:=([(FW .u8<|FW .i64 (48+j))]:VI)) R Y22 vg R (Jj4 R) λO P _ p _ t=>Tv<|Jg4 tv R (BV Y22 underlying5 underlying9 R (svE t.rdc) R R)<|Jn 1 R<|Ob h λN E h=>Jf R (dg R R R E)<|Jb 1 R<|Ji3 [2,2,2] 1 R<|Jf R (B5 R R R<|show ¬(10:Int)=0 by decide) (Jc 1 R<|Jz ?_))
 cases h
 exact Ja2 ⟨p,(((FW .i64<|Int.tdiv d.1 10):Int),N),R,Fct,m⟩ R
 rintro _ L ⟨i,k,rfl,_,rfl⟩
 refine have h:=yI x;Jp (Jq<|Jf3 R<|Ob h λH h y=>Jx1 (λc a=>∃b,c=[(3,.string H)]/\Stp [] i L b a) ?_ ?_)
 exact Bk h (λD h=>Jy R<|Js<|Oh h<|Jw1 _ ⟨i,R,Jo3⟩<|KM R) (λD h=>Jx R<|Ji3 [2,2,2] 1 R<|Ob h λ_ F h=>Jf R (dg R R R F)<|Jc 1 R<|Oh h<|Jw1 _ ⟨i,R,Jo3⟩<|KM R)
 rintro _ _ ⟨q,rfl,_⟩
 exact have h:=y;Jp (Jf3 R<|Ju<|Jb2 (l:=[.tmp 2]) results28 (Jq2 R R) R<|Oh h<|⟨q,R,Fct⟩)
theorem n9 {p0 p1:ByteArray}  {r:ByteArray}(h:strings_TrimPrefix p0 p1=some r):Ret prog 32 [.string p0,.string p1] w (λa b=>∃(c:Col),a= .string r/\Ent J w c b):=Dx Tryz.strings_TrimPrefix h
theorem oq {p0:Int}  {r:Bool}(h:lL p0=some r):Ret prog 102 [vi p0] w (Pvb J w r):=by
 refine Jp3 J func102 R ntmps102 R λk=>Jf3 R<|Jl3 3 R<|Ob h λi h c=>Jk4 [0,2] 8 i J w 3 tv ?_ ?_
 exact Bk h (λe h=>Jn 3 R<|Oh h<|Jl4 tv R) (λe h=>Jn 3 R<|Oh h<|Jl4 tv R)
 rintro _ j _ ⟨rfl,a,_⟩
 refine Jn 1 R<|Ob c λg h d=>Jk4 [2] 12 g a j 3 tv ?_ ?_
 exact Bk h (λf h=>Jn 3 R<|Oh h<|Jl4 tv R) (λf h=>Jn 3 R<|Oh h<|Jl4 tv R)
 rintro _ _ _ ⟨rfl,b,_⟩
 exact have h:=d;Jb 1 R (Ju<|Jb2 (l:=[.tmp 2]) results102 (Jq2 R R) R<|Oh h<|⟨b,R,Fct⟩)
theorem qv {a d c g b f e i}{p0:bench}{p1:ByteArray}{j}(n:Rd Clause.rp J w 0 a d p0.clauses) (o:Rd Ri J w 0 c g p0.game.Arena.Owner) (p:Rd Rs J w 0 b f p0.game.Arena.Next) (q:Rd Ri J w 0 e i p0.game.Prio) (s:Bc J w 0 j 57 [vi p0.sig.In,vi p0.sig.Out,.slice a p0.clauses.length d,.slice c p0.game.Arena.Owner.length g,.slice b p0.game.Arena.Next.length f,.slice e p0.game.Prio.length i]){r:ByteArray}(h:kU p0 p1=some r):Ret prog 34 [.pointer (some ⟨j,0,none⟩),.string p1] w (λk l=>∃m,k= .string r/\Ent J w m l):=by
 unfold kU at h
 cases h
theorem ir {p0:Sig}  {r:Bool}(h:jN p0=some r):Ret prog 39 [.agg #[vi p0.In,vi p0.Out]] w (Pvb J w r):=by
 refine Jp3 J func39 R ntmps39 R λx=>Jj3<|Jx3 J 2 R λ_ t d _ a=>Tv<|Jb 1 R<|Jj3<|Je3 R U39 R Z2<|Jc3 R I2 (a.ld 0 R R)<|Jn 2 R<|Ob h λp h k=>Jk4 [1,2] 10 p d t 4 tv ?_ ?_
 exact Bk h (λo h=>Jn 1 R<|Je4 R<|Jn 2 R<|Oh h<|Jl4 tv R) (λo h=>Je3 R U39 R Z2<|Jc3 R I2 (a.ld 0 R R)<|Jn 2 R<|Oh h<|Jl4 tv R)
 rintro _ v _ ⟨rfl,f,b⟩
 refine Jn 1 R<|Ob k λq h i=>Jk4 [1,2] 15 q f v 4 tv ?_ ?_
 exact Bk h (λm h=>Jn 1 R<|Je4 R<|Jn 2 R<|Oh h<|Jl4 tv R) (λm h=>Je3 R U39 R Z2<|Jc3 R I2 ((a.stp b).ld 1 R R)<|Jn 2 R<|Oh h<|Jl4 tv R)
 rintro _ u _ ⟨rfl,c,g⟩
 refine Jn 1 R<|Ob i λs h j=>Jk4 [2] 20 s c u 4 tv ?_ ?_
 exact Bk h (λn h=>Jn 1 R<|Je4 R<|Jn 2 R<|Oh h<|Jl4 tv R) (λn h=>Je3 R U39 R Z2<|Jc3 R I2 ((a.stp<|b.tr g).ld 1 R R)<|Jn 2 R<|Oh h<|Jl4 tv R)
 rintro _ _ _ ⟨rfl,e,_⟩
 exact have h:=j;Jb 1 R (Ju<|Jb2 (l:=[.tmp 2]) results39 (Jq2 R R) R<|Oh h<|⟨e,R,Fct⟩)
theorem rF {p0:Int}{p1:Int}{p2:Bool}{i:Bool}  {r:Int}(h:jO p0 p1 p2 i=some r):Ret prog 173 [vi p0,vi p1,.bool p2,.bool i] w (Pvi J w r):=by
 refine Jp3 J func173 R ntmps173 R λI=>Jf3 R<|Jf3 R<|Jq<|Jf3 R<|Ob h λG h m=>Jt3 [0,1,3,10] (λb d e=>∃f,d=(9,vi G)::b/\Stp [] J w f e) ?_ ?_
 exact Bk h (λD h=>Jy R<|Js<|Oh h<|Jw1 _ ⟨J,R,Jo3⟩<|KM R) (λD h=>Jx R<|Jg3 R<|Oh h<|Jw1 _ ⟨J,R,Jo3⟩<|KM R)
 rintro _ H ⟨c,rfl,_⟩
 refine Jp<|Jq<|Jf3 R<|Ob m λj h p=>Jt3 [0,1,9] (λb d e=>∃f,d=(3,.bool j.1)::(10,vi j.2)::b/\Stp [] c H f e) ?_ ?_
 exact Bk h (λq h=>Jy R<|Js<|Oh h<|Jw1 _ ⟨c,R,Jo3⟩<|KM R) (λq h=>Jx R<|Jg3 R<|Oh h<|Jw1 _ ⟨c,R,Jo3⟩<|KM R)
 rintro _ k ⟨a,rfl,_⟩
 refine have h:=p;Jp (Jq<|Jf3 R<|Jv<|Jf3 R ?_)
 refine Bk h (λs h=>Jy R<|Jf3 R ?_) (λs h=>Jx R<|Jl3 3 R<|Jf R (wL R R R)<|Jb 1 R<|Ju<|Ja1<|Jw<|Jb2 (l:=[.tmp 8]) V173 (Jq2 R R) R<|Oh h<|⟨a,R,Fct⟩)
 refine Bk h (λt h=>Jy R<|Jf3 R ?_) (λt h=>Jx R<|Jq<|Jl3 3 R<|Ob h λF h n=>Jk4 [9] 31 F a k 7 tv ?_ ?_)
 refine Bk h (λy h=>Jy R<|Jf3 R ?_) (λy h=>Jx R<|Jq<|Jf3 R ?_)
 refine Bk h (λA h=>Jy R<|Jf3 R ?_) (λA h=>Jx R<|Jf3 R<|Ju<|Ja1<|Jw<|Jb2 (l:=[.tmp 8]) V173 (Jq2 R R) R<|Oh h<|⟨a,R,Fct⟩)
 refine Bk h (λB h=>Jy R<|Jf3 R ?_) (λB h=>Jx R<|Jf3 R<|Ju<|Ja1<|Jw<|Jb2 (l:=[.tmp 8]) V173 (Jq2 R R) R<|Oh h<|⟨a,R,Fct⟩)
 exact Bk h (λC h=>Jy R<|Js<|Jz<|Jp<|Jf3 R<|Ju<|Jb2 (l:=[.tmp 8]) V173 (Jq2 R R) R<|Oh h<|⟨a,R,Fct⟩) (λC h=>Jx R<|Jl3 2 R<|Jf R (wL R R R)<|Jb 1 R<|Ju<|Ja1<|Jw<|Jb2 (l:=[.tmp 8]) V173 (Jq2 R R) R<|Oh h<|⟨a,R,Fct⟩)
 exact Bk h (λz h=>Jy R<|Js<|Jp<|Jl3 2 R<|Jf R (wL R R R)<|Jb 1 R<|Ju<|Ja1<|Jw<|Jb2 (l:=[.tmp 8]) V173 (Jq2 R R) R<|Oh h<|⟨a,R,Fct⟩) (λz h=>Jx R<|Jf3 R<|Ju<|Jw<|Ja1<|Jw<|Jb2 (l:=[.tmp 8]) V173 (Jq2 R R) R<|Oh h<|⟨a,R,Fct⟩)
 refine Bk h (λu h=>Jn 3 R<|Ob h λE h o=>Jk4 [9,24] 30 E a k 3 tv ?_ ?_) (λu h=>Jn 7 R<|Oh h<|Jl4 tv R)
 exact Bk h (λv h=>Jn 3 R<|Oh h<|Jl4 tv R) (λv h=>Jn 3 R<|Oh h<|Jl4 tv R)
 rintro _ _ _ ⟨rfl,_,_⟩
 exact have h:=o;Jn 1 R (Oh h<|Jv1 _ tv ⟨R,_,Fct⟩<|KM R)
 rintro _ _ _ ⟨rfl,g,_⟩
 refine have h:=n;Jd ?_
 exact Bk h (λx h=>Jy R<|Js<|Jp<|Jf3 R<|Ju<|Ja1<|Jw<|Jb2 (l:=[.tmp 8]) V173 (Jq2 R R) R<|Oh h<|⟨g,R,Fct⟩) (λx h=>Jx R<|Jf3 R<|Ju<|Jw<|Ja1<|Jw<|Jb2 (l:=[.tmp 8]) V173 (Jq2 R R) R<|Oh h<|⟨g,R,Fct⟩)
theorem jq {o u}{p0:(List (Int×Int))}{p1:(Int×Int)}(i:Rd (Rp.pair Ri Ri) J w 0 o u p0){r:Int}(h:dh p0 p1=some r):Ret prog 172 [.slice o p0.length u,.agg #[vi p1.1,vi p1.2]] w (Pvi J w r):=by
 refine Jp3 J func172 R ntmps172 R λF=>Jj3<|Jx3 J 2 R λ_ v f z A=>Tv<|Jb 1 R<|Jq<|Jl3 1 R<|Js3 R U188 R R<|Jb 1 R<|Ob h λt C p=>Jx1 (λg j=>∃k,g=[]/\Stp [] f v k j/\t=FX ()) (Jv<|Ju3 [0,3,7] (λc x g j=>∃k b,g=(8,vi b)::x/\Stp [] f v k j/\0<=b/\FV ((p0.length:Int)-b)=c/\cntM (c7 p0 p1) c b ()=some t) ⟨_,_,⟨f,0,R,Jo3,(by decide),(by simp),C⟩,(KM R)⟩ ?_) ?_
 rintro c _ _ ⟨d,b,rfl,m,q,e,h⟩
 rcases c with _|c
 exact Jf3 R<|Jq<|Jx2 R (dcf e)<|Jc1<|Jt<|Jt<|Jb1<|Oh h<|Jw1 _ ⟨d,R,Fct,R⟩ KN
 refine Ob h λo5 h a=>Jf3 R<|Jq<|Jw2 R (dct e)<|Js<|Jp<|Jq<|Jv<|Jf3 R<|Jq<|Xn d [0,2] [5,8,11,0,12,17] λ_ n=>Jn 2 R<|Ob h λG s h=>Jd3 R i s U188 Z187<|Jg R (Jh4 (haC (A.stp<|m.tr n).cells R) I187 Z187 R) ?_
 obtain⟨_,D,B⟩:=((i.stp (T3 z m n))).gSt s
 obtain⟨_,_,rfl,rfl,rfl⟩:=D
 refine Jg R (Jh4 (haC B R) I187 Z187 R)<|Jf R (BX U187 (by kernel_rfl) I2 U2 Z2 R R R)<|Jt1<|Jd ?_
 exact Bk h (λE h=>Jy R<|Js<|Jz<|Jp<|Jg3 R<|wr2 q e i.len_le ▸ (Ou h a (λa=>Ja2 ⟨d,b+1,R,Fct,nxz q,nxm e,a⟩ R))) (λE h=>Jx R<|Jf3 R<|Ju<|Ja1<|Jw<|Jw<|Ou h a (λa=>Ov a p (λh=>Ja1<|Jr2<|Jw<|Jb2 (l:=[.tmp 4]) results172 (Jq2 R R) R<|Oh h<|⟨d,R,Fct⟩)))
 rintro _ _ ⟨y,rfl,_,rfl⟩
 exact have h:=yI p;Jp (Jf3 R<|Ju<|Jb2 (l:=[.tmp 4]) results172 (Jq2 R R) R<|Oh h<|⟨y,R,Fct⟩)
theorem dr {p0:Sig}  {r:Int}(h:dz p0=some r):Ret prog 73 [.agg #[vi p0.In,vi p0.Out]] w (Pvi J w r):=by
 exact Jp3 J func73 R ntmps73 R λd=>Jj3<|Jx3 J 2 R λ_ _ a _ b=>Tv<|Jb 1 R<|Jj3<|Je3 R U39 R Z2<|Jc3 R I2 (b.ld 0 R R)<|Ob h λ_z5 c h=>Jf R (rU R R R<|vy c)<|Jb 1 R<|Ju<|Jb2 (l:=[.tmp 2]) results73 (Jq2 R R) R<|Oh h<|⟨a,R,Fct⟩
theorem lG {a c}{p0:VI}(f:Oc E6 2 J w 2 a c p0){r:VI}(h:dv p0=some r):Ret prog 177 [.slice a p0.length c] w (Pvs E6 2 J w r):=by
  unfold dv at h
  split at h
  .rename_i b
   cases h
   exact yP (λd k e l w g j i=>Tryz.slices_Compact_int d k e l w g j i) f b.1 b.2
  .cases h
theorem uO {N Q O P}{p0:Pair}(aA:Rd Ri J w 0 N Q p0.Ask) (aB:Rd Ri J w 0 O P p0.Give){r:Pair}(h:pV p0=some r):Ret prog 178 [.agg #[.slice N p0.Ask.length Q,.slice O p0.Give.length P]] w (λay f=>∃g T V U W,ay= .agg #[.slice T r.Ask.length V,.slice U r.Give.length W]/\Ent J w g f/\Oc E6 2 g f 2 T V r.Ask/\Oc E6 2 g f 3 U W r.Give):=by
 refine Jp3 J func178 R ntmps178 R λaC=>Jj3<|Jx3 J 2 R λ_ _ aa _ ar=>Tv<|Jy3 aa 3 R X120 R λan az n al _=>Tv<|Jd<|Jq<|Ob h λm C h=>Ob h λk B h=>Jt3 [2] (λY ai f=>∃g v t s u,ai=Y/\Stp [3,4,5] n az g f/\Oc E6 2 g f 4 v t m/\Oc E6 2 g f 5 s u k/\Bc g f 3 an 120 [.slice v m.length t,.slice s k.length u]) (WC.rxt (J:=n) [2] none (by kernel_rfl) λ_ H=>Jq1 (fuel:=6) [(1,2),(5,2),(2,0),(6,0)] (by kernel_rfl) (by kernel_rfl) R<|Je3 R U120 R Z30<|Je3 R U120 R Z30 (have S:=ar.stp (al.tr H);Jg R (Jd2 I30 R R<|hvC (S.ld 0 R R) R) (Jg R (Jd2 I30 R R<|hvC (S.ld 1 R R) R)<|Jp1<|WA.fork2 (fuel:=5) 0 4 (by kernel_rfl) R (Jc4 n E6 4 R Y30 bS R λam ax _ D a ap=>⟨(a.cl R),Jp1<|WA.fork2 (fuel:=4) 3 4 (by kernel_rfl) R (Jd4 D E6 4 [] R Y30 bS R ap (FY (cd _) Fct) bU C R λb e _ ab o _=>⟨((a.tr o).cl R),Xs 0 [13,22,26,28]<|Jc4 ab E6 5 R Y30 bS R λM X _ ac x aq=>⟨((T3 a o x).cl R),Jd4 ac E6 5 [] R Y30 bS R aq (FY (cd _) Fct) bU B R λc d _ E I _=>⟨((T4 a o x I).cl R),Jf R (Jn4 [.slice b m.length e,.slice c k.length d] R)<|Jm4 E 3 R Z120 R Fct R λ_ aj au=>⟨((T5 a o x I aj).cl R),Xe<|Jo<|Jw1 _ ⟨E,b,e,c,d,R,Fct,Fct,Fct,au⟩<|KM R⟩⟩⟩⟩)<|Jc4 D E6 5 R Y30 bS R λM X _ ad p _=>⟨((a.tr p).cl R),Xs 0 [10,22,26,28]<|Jd4 ad E6 4 [] R Y30 bS R Fct (FY (cd _) Fct) bU C R λb e _ ae y _=>⟨((T3 a p y).cl R),Jd4 ae E6 5 [] R Y30 bS R Fct (FY (cd _) Fct) bU B R λc d _ F K _=>⟨((T4 a p y K).cl R),Jf R (Jn4 [.slice b m.length e,.slice c k.length d] R)<|Jm4 F 3 R Z120 R Fct R λ_ ak av=>⟨((T5 a p y K ak).cl R),Xe<|Jo<|Jw1 _ ⟨F,b,e,c,d,R,Fct,Fct,Fct,av⟩<|KM R⟩⟩⟩⟩⟩)<|Jc4 n E6 4 R Y30 bS R λM X _ af i _=>⟨(i.cl R),Xs 0 [1,10,22,26,28]<|Jc4 af E6 5 R Y30 bS R λam ax _ ag j aw=>⟨((i.tr j).cl R),Jd4 ag E6 5 [] R Y30 bS R aw (FY (cd _) Fct) bU C R λb e _ ah q _=>⟨((T3 i j q).cl R),Jd4 ah E6 4 [] R Y30 bS R Fct (FY (cd _) Fct) bU B R λc d _ G z _=>⟨((T4 i j q z).cl R),Jf R (Jn4 [.slice b m.length e,.slice c k.length d] R)<|Jm4 G 3 R Z120 R Fct R λ_ L _=>⟨((T5 i j q z L).cl R),Xe<|Jo<|Jw1 _ ⟨(λA=>ren [(5,4),(4,5)]<|G A),b,e,c,d,R,(Jz2 ((T6 H i j q z L).wk R) [(5,4),(4,5)] R),Fct,Fct,Fct⟩<|KM R⟩⟩⟩⟩⟩))) ?_
 rintro _ _ ⟨Z,v,t,s,u,rfl,_,_,_,ao⟩
 exact Jp<|Ju<|Jb2 (l:=[.cell 2 120]) results178 (cc R ao I120 Z120 R R) R<|Oh h<|⟨(λA=>ren [(4,2),(5,3)]<|Z A),v,t,s,u,R,Fct,Fct,Fct⟩
theorem rH {a b c d}{p0:Arena}(g:Rd Ri J w 0 a b p0.Owner) (i:Rd Rs J w 0 c d p0.Next){r:Int}(h:oy p0=some r):Ret prog 209 [.agg #[.slice a p0.Owner.length b,.slice c p0.Next.length d]] w (Pvi J w r):=by
 unfold oy at h
 exact Jp3 J func209 R ntmps209 R λj=>Jj3<|Jx3 J 2 R λ_ _ e _ f=>Tv<|Jb 1 R<|Jj3<|Je3 R U53 R Z30<|Jc3 R I30 (f.ld 0 R R)<|Js3 R U30 R R<|Jb 1 R<|Ju<|Jb2 (l:=[.tmp 2]) results209 (Jq2 R R) R<|Oh h<|⟨e,R,Fct⟩
theorem eS {n x}{p0:VI}{o y}{p1:VI}(g:Rd Ri J w 0 n x p0) (p:Rd Ri J w 0 o y p1){r:Bool}(h:dm p0 p1=some r):Ret prog 129 [.slice n p0.length x,.slice o p1.length y] w (Pvb J w r):=by
 refine Jp3 J func129 R ntmps129 R λB=>Jf3 R<|Jq<|Jl3 1 R<|Js3 R U30 R R<|Jn 1 R<|Js3 R U30 R R<|Jb 1 R ?_
 refine Bk h (λD h=>Jy R<|Js<|Jp<|Jq<|Jl3 1 R<|Js3 R U30 R R<|Jb 1 R<|Ob h λv C q=>Jx1 (λf i=>∃j,f=[]/\Stp [] J w j i/\v=FX ()) (Jv<|Ju3 [0,1,12] (λc z f i=>∃j b,f=(13,vi b)::z/\Stp [] J w j i/\0<=b/\FV ((p0.length:Int)-b)=c/\cntM (dK p0 p1) c b ()=some v) ⟨_,_,⟨J,0,R,Jo3,(by decide),(by simp),C⟩,(KM R)⟩ ?_) ?_) (λD h=>Jx R<|Jf3 R<|Ju<|Jw<|Jb2 (l:=[.tmp 4]) results129 (Jq2 R R) R<|Oh h<|⟨J,R,B⟩)
 rintro c _ _ ⟨d,b,rfl,k,s,e,h⟩
 rcases c with _|c
 exact Jf3 R<|Jq<|Jx2 R (dcf e)<|Jc1<|Jt<|Jt<|Jb1<|Oh h<|Jw1 _ ⟨d,R,Fct,R⟩ KN
 refine Ob h λF h a=>Jf3 R<|Jq<|Jw2 R (dct e)<|Js<|Jp<|Jq<|Jv<|Jf3 R<|Jq<|Xn d [0] [2,5,8,14,17,20,9,21,26] λ_ m=>Jn 2 R<|Ob h λG t h=>Jd3 R g t U30 Z2<|Jn 2 R<|Ob h λH u h=>Jd3 R p u U30 Z2<|Jg R (Jd2 I2 R R<|hvC ((g.stp<|k.tr m).gInt t) R)<|Jg R (Jd2 I2 R R<|hvC ((p.stp<|k.tr m).gInt u) R)<|Jn 1 R<|Jt1<|Jd ?_
 exact Bk h (λE h=>Jy R<|Js<|Jz<|Jp<|Jg3 R<|wr2 s e g.len_le ▸ (Ou h a (λa=>Ja2 ⟨d,b+1,R,Fct,nxz s,nxm e,a⟩ R))) (λE h=>Jx R<|Jf3 R<|Ju<|Ja1<|Jw<|Jw<|Ou h a (λa=>Ov a q (λh=>Ja1<|Jr2<|Jw<|Jb2 (l:=[.tmp 4]) results129 (Jq2 R R) R<|Oh h<|⟨d,R,Fct⟩)))
 rintro _ _ ⟨A,rfl,_,rfl⟩
 exact have h:=yI q;Jp (Jf3 R<|Ju<|Jb2 (l:=[.tmp 4]) results129 (Jq2 R R) R<|Oh h<|⟨A,R,Fct⟩)
theorem sN {y z s o f g}{p0:Parity}{p1:Int}{p2:Int}{n t}{c:VI}(ai:Oc E6 2 J w 2 y z p0.Arena.Owner) (aj:Oc (Ep.fz Rs) 30 J w 3 s o p0.Arena.Next) (ak:Oc E6 2 J w 4 f g p0.Prio) (al:Rd Ri J w 0 n t c){r:Parity}(h:ni p0 p1 p2 c=some r):Ret prog 58 [.agg #[.slice y p0.Arena.Owner.length z,.slice s p0.Arena.Next.length o,.slice f p0.Prio.length g],vi p1,vi p2,.slice n c.length t] w (λab i=>∃k A D B E C F,ab= .agg #[.slice A r.Arena.Owner.length D,.slice B r.Arena.Next.length E,.slice C r.Prio.length F]/\Ent J w k i/\Oc E6 2 k i 5 A D r.Arena.Owner/\Oc (Ep.fz Rs) 30 k i 6 B E r.Arena.Next/\Oc E6 2 k i 7 C F r.Prio):=by
 exact Jp3 J func58 R ntmps58 R λam=>Jj3<|Jx3 J 5 R λ_ _ I _ U=>Tv<|Jy3 I 6 R X55 R λ_ _ M N _=>Tv<|Jd<|Jj3<|Je3 R U55 R Z53<|Je3 R U53 R Z30<|Jc3 R I30 ((U.stp N).ld 0 R R)<|Jn 1 R<|Ji4 M 7 [p1] R Y30 bS R λad ag _ H _ P=>Tv<|Ob h λj Y h=>Jd4 H E6 2 [] R Y30 bS R Fct (FY (cd _) P.rdc) bU Y R λa b _ v _ _=>Tv<|Je3 R U55 R Z53<|Je3 R U53 R Z30<|Jz3 v 5 (off:=0) (vc:=[.slice a j.length b]) (cs':=[.slice a j.length b,.slice s p0.Arena.Next.length o,.slice f p0.Prio.length g]) R Z30 R Fct R λ_ _ Q=>Tv<|Jd<|Jj3<|Je3 R U55 R Z53<|Je3 R U53 R Z51<|Jc3 R I51 (Q.ld 1 R R)<|Jn 1 R<|Jb4 v (Ep.fz<|Rs) 8 [] (parts:=[(0,.tmp 20)]) (cells:=[.slice n c.length t]) (xs:=([c]:VV)) R Y51 bY R (Jj4 ⟨_,_,R,(Sl.z1 Fct)⟩) λah ac _ K _ S=>Tv<|Ob h λu Z h=>Jd4 K (Ep.fz<|Rs) 3 [8] R Y51 bY R Fct S.src (c9 R) Z R λd e _ x _ _=>Tv<|Je3 R U55 R Z53<|Je3 R U53 R Z51<|Jz3 x 5 (off:=1) (vc:=[.slice d u.length e]) (cs':=[.slice a j.length b,.slice d u.length e,.slice f p0.Prio.length g]) R Z51 R Fct R λ_ _ T=>Tv<|Jd<|Jj3<|Je3 R U55 R Z30<|Jc3 R I30 (T.ld 2 R R)<|Jn 1 R<|Ji4 x 9 [p2] R Y30 bS R λae af _ L _ V=>Tv<|Ob h λG aa h=>Jd4 L E6 4 [] R Y30 bS R Fct (FY (cd _) V.rdc) bU aa R λp q _ m _ _=>Tv<|Je3 R U55 R Z30<|Jz3 m 5 (off:=2) (vc:=[.slice p G.length q]) (cs':=[.slice a j.length b,.slice d u.length e,.slice p G.length q]) R Z30 R Fct R λ_ _ W=>Tv<|Jd<|Jj3<|Jg4 tv R (Jh4 (haE W.cells) I55 Z55 R)<|Jm4 m 6 R Z55 R Fct R λ_ _ X=>Tv<|Jd<|Ju<|Jb2 (l:=[.cell 8 55]) results58 (cc R X I55 Z55 R R) R<|Oh h<|⟨(λO=>ren [(2,5),(3,6),(4,7)]<|m O),a,b,d,e,p,q,R,Fct,Fct,Fct,Fct⟩
theorem yU {p0:Int}  {r:VI}(h:wb p0=some r):Ret prog 208 [vi p0] w (Pvs E6 2 J w r):=by
 refine Jp3 J func208 R ntmps208 R λY=>Jf3 R<|Jq<|Jl3 3 R<|Ob h λU h L=>Jk4 [0] 10 U J w 3 tv ?_ ?_
 exact Bk h (λQ h=>Jn 3 R<|Oh h<|Jl4 tv R) (λQ h=>Jn 3 R<|Oh h<|Jl4 tv R)
 rintro _ _ _ ⟨rfl,s,_⟩
 refine have h:=L;Jd ?_
 refine Bk h (λS h=>Jy R<|Js<|Jp<|Jj3<|Jc4 s E6 2 R Y30 bS R λE D v n _ F=>Tv<|Jb 1 R<|Jq<|Jf3 R (Ob h λ_ P h=>have N:=gk P;Ob h λu O M=>Jx1 (λo d=>∃e,∃m:VI,∃i f,o=[(3,.slice i m.length f)]/\Stp [2] n v e d/\Oc E6 2 e d 2 i f m/\u=FX m) (Jv<|Ju3 [0] (λb x o d=>∃e a,∃c:VI,∃g j,o=(3,.slice g c.length j)::(4,vi a)::x/\Stp [2] n v e d/\Oc E6 2 e d 2 g j c/\0<=a/\FV (p0-a)=b/\cntM mW b a c=some u) ⟨_,_,⟨n,0,([]:VI),E,D,R,Jo3,F,(by decide),(by simp),O⟩,(KM R)⟩ ?_) ?_)) (λS h=>Jx R<|Jf3 R<|Ju<|Jw<|Jb2 (l:=[.tmp 2]) results208 (Jq2 R R) R<|Oh h<|⟨s,none,0,R,Fct,Ow.nil⟩)
 rintro b _ _ ⟨q,a,c,g,j,rfl,_,H,t,k,h⟩
 rcases b with _|b
 exact Jq<|Jf3 R<|Jx2 R (dcf k)<|Jc1<|Jt<|Jt<|Jb1<|Oh h<|Jw1 _ ⟨q,c,g,j,R,Fct,H,R⟩<|KM R
 exact Ob h λZ h p=>Jq<|Jf3 R<|Jw2 R (dct k)<|Js<|Jp<|Jq<|Jv<|Jm3 2 R<|Ji4 q 3 [a] R Y30 bS R λX W _ z _ I=>Tv<|Ob h λV T h=>Jd4 z E6 2 [] R Y30 bS R Fct (FY (cd _) I.rdc) bU T R λB C _ A _ K=>Tv<|Jc 1 R<|Jz<|Jp<|Jg3 R<|wr2 t k N ▸ (Ou h p (λp=>Ja2 ⟨A,a+1,V,B,C,R,Fct,K,nxz t,nxm k,p⟩ R))
 rintro _ _ ⟨y,m,i,f,rfl,_,G,rfl⟩
 exact have h:=yI M;Jp (Jf3 R<|Ju<|Jb2 (l:=[.tmp 2]) results208 (Jq2 R R) R<|Oh h<|⟨y,i,f,R,Fct,G⟩)
theorem wi {H L I K}{p0:Arena}(aL:Rd Ri J w 0 H L p0.Owner) (A:Rd Rs J w 0 I K p0.Next){r:VV}(h:pe p0=some r):Ret prog 203 [.agg #[.slice H p0.Owner.length L,.slice I p0.Next.length K]] w (Pvs (FU E6 2) 30 J w r):=by
 refine Jp3 J func203 R ntmps203 R λaM=>Jj3<|Jx3 J 2 R λ_ _ ae ak N=>Tv<|Jb 1 R<|Jj3<|Je3 R U53 R Z30<|Jc3 R I30 (N.ld 0 R R)<|Js3 R U30 R R<|Ob h λj aE h=>Jl1 (J:=ae) (E:=(FU E6 2)) (z:=([]:VI)) 3 R R R R R R R Y51 bY R R R R R (λ_ _ _=>⟨none,0,R,Ow.nil⟩) (Jv2 aE) λm k aa x G av=>Tv<|Jb 1 R<|Jq<|Jj3<|Je3 R U53 R Z51<|Jc3 R I51 ((N.stp G).ld 1 R R)<|Js3 R U51 R R<|Jb 1 R<|Ob h λX aC aw=>Jt3 [3] (λd f b=>∃c,∃v:VV,f=d/\Stp [3,5] x aa c b/\Oc (FU E6 2) 30 c b 3 m k v/\j.length=v.length/\X=FX v) (Jv<|Ju3 [3,13,14] (λa d f b=>∃c e,∃g:VV,f=(15,vi e)::d/\Stp [3,5] x aa c b/\Oc (FU E6 2) 30 c b 3 m k g/\j.length=g.length/\0<=e/\FV ((p0.Next.length:Int)-e)=a/\cntM (ku p0) a e g=some X) ⟨_,_,⟨x,0,j,R,Jo3,av,R,(by decide),(by simp),aC⟩,(KM R)⟩ ?_) ?_
 rintro a _ Z ⟨p,e,g,rfl,aj,M,T,P,s,h⟩
 rcases a with _|a
 exact Jf3 R<|Jq<|Jx2 R (dcf s)<|Jc1<|Jt<|Jt<|Jb1<|Oh h<|Jw1 _ ⟨p,g,R,Fct,M,T,R⟩<|KM R
 refine Ob h λaN h B=>Jf3 R<|Jq<|Jw2 R (dct s)<|Js<|Jp<|Jq<|Jv<|Jl3 1 R<|Ob h λab U h=>Jd3 R A U U51 Z30 ?_
 obtain⟨_,_,y,ay⟩:=(A.stp (T3 ak G aj)).gSl U
 refine Jc3 R I30 ay<|Jb 2 R<|Jl3 1 R<|Js3 R U30 R R<|Jb 1 R<|Ob h λY aD ax=>Jt3 [3,13,14,15] (λd f b=>∃c,∃o:VV,f=d/\Stp [3,5] p Z c b/\Oc (FU E6 2) 30 c b 3 m k o/\j.length=o.length/\Y=FX o) (Jv<|Ju3 [3,4,13,14,15,20,21] (λa d f b=>∃c i,∃n:VV,f=(22,vi i)::d/\Stp [3,5] p Z c b/\Oc (FU E6 2) 30 c b 3 m k n/\j.length=n.length/\0<=i/\FV ((ab.length:Int)-i)=a/\cntM (kv e ab) a i n=some Y) ⟨_,_,⟨p,0,g,R,Jo3,M,T,(by decide),(by simp),aD⟩,(KM R)⟩ ?_) ?_
 rintro a _ _ ⟨E,i,n,rfl,al,q,u,Q,t,h⟩
 rcases a with _|a
 exact Jf3 R<|Jq<|Jx2 R (dcf t)<|Jc1<|Jt<|Jt<|Jb1<|Oh h<|Jw1 _ ⟨E,n,R,Fct,q,u,R⟩<|KM R
 refine Ob h λaO h C=>Jf3 R<|Jq<|Jw2 R (dct t)<|Js<|Jp<|Jq<|Jv<|Jj3<|Ob h λ_ V h=>Jd3 R y V U30 Z2<|Jc3 R I2 ((y.stp al).gInt V)<|Jb 1 R<|Jm3 4 R<|Ob h λ_ D h=>Jf R (Jg2 q.rdc D U51 Z30 R R u R) ?_
 obtain⟨_,_,_,S⟩:=q.rdc.gSl D
 refine Jc3 R I30 S<|Jn 1 R<|Ji4 E 4 [e] R Y30 bS R λaK aJ _ _ F ap=>Tv<|?_
 have O:=q.stp F
 obtain⟨ag,am,aq,_⟩:=O.borrow D (S _ (Stp.ag F R)) 5 R R
 exact Ob h λ_ aF h=>Jd4 ag E6 5 [] R Y30 bS R aq (FY (cd _) (ap.stp am).rdc) bU aF R λaH aI _ ah _ ar=>Tv<|Ob h λ_ aG h=>Jf R (Jg2 O.rdc aG U51 Z30 R R u R) (Ob h λac W h=>WO.stH (J:=ah) (E:=(FU E6 2)) 3 [5] R R R R R R R R Z30 R ⟨_,_,R,ar⟩ R R Fct W λ_ ai _ au=>Tv<|have aB:j.length=ac.length:=u.trans (Ju2 W).2.2.2.symm;Jo (Jz<|Jp<|Jg3 R<|wr2 Q t y.len_le ▸ (Ou h C (λC=>Ja2 ⟨ai,i+1,ac,R,Fct,au,aB,nxz Q,nxm t,C⟩ R))))
 rintro _ _ ⟨af,o,rfl,_,ao,aA,rfl⟩
 exact have h:=yI ax;Jz (Jp<|Jg3 R<|wr2 P s A.len_le ▸ (Ou h B (λB=>Ja2 ⟨af,e+1,o,R,Fct,ao,aA,nxz P,nxm s,B⟩ R)))
 rintro _ _ ⟨ad,v,rfl,_,_,az,rfl⟩
 exact have h:=yI aw;Jp (Jf3 R<|Ju<|Jb2 (l:=[.tmp 2]) results203 (Jq2 R R) R<|Oh h<|⟨(λan=>ren [(3,2)]<|ad an),m,k,(by simp only[az]),Fct,Fct⟩)
theorem iB {y D}{p0:VB}(u:Rd Rp.bool J w 0 y D p0){r:VI}(h:iV p0=some r):Ret prog 206 [.slice y p0.length D] w (Pvs E6 2 J w r):=by
 refine Jp3 J func206 R ntmps206 R λae=>Jf3 R<|Jj3<|Jc4 J E6 2 R Y30 bS R λM aa E t L U=>Tv<|Jb 1 R<|Jq<|Jl3 1 R<|Js3 R U179 R R<|Jb 1 R<|Ob h λC X W=>Jx1 (λd a=>∃b,∃q:VI,∃o k,d=[(3,.slice o q.length k)]/\Stp [2] t E b a/\Oc E6 2 b a 2 o k q/\C=FX q) (Jv<|Ju3 [7,8] (λg s d a=>∃b c,∃i:VI,∃e f,d=(3,.slice e i.length f)::(9,vi c)::s/\Stp [2] t E b a/\Oc E6 2 b a 2 e f i/\0<=c/\FV ((p0.length:Int)-c)=g/\cntM (lO p0) g c i=some C) ⟨_,_,⟨t,0,([]:VI),M,aa,R,Jo3,U,(by decide),(by simp),X⟩,(KM R)⟩ ?_) ?_
 rintro g _ ab ⟨j,c,i,e,f,rfl,K,z,A,p,h⟩
 rcases g with _|g
 exact Jf3 R<|Jq<|Jx2 R (dcf p)<|Jc1<|Jt<|Jt<|Jb1<|Oh h<|Jw1 _ ⟨j,i,e,f,R,Fct,z,R⟩<|KM R
 refine Ob h λo5 h v=>Jf3 R<|Jq<|Jw2 R (dct p)<|Js<|Jp<|Jq<|Jv<|Jl3 1 R<|Ob h λaf B h=>Jd3 R u B U179 Z4<|Jc3 R I4 ((u.stp<|L.tr K).gBool B)<|Jb 2 R<|Jf3 R<|Ob h λx h V=>Jt3 [7,8,9] (λs d a=>∃b n m,d=(3,.slice n x.length m)::s/\Stp [2] j ab b a/\Oc E6 2 b a 2 n m x) ?_ ?_
 exact Bk h (λY h=>Jy R<|Js<|Oh h<|Jw1 _ ⟨j,e,f,R,Jo3,z⟩<|KM R) (λY h=>Jx R<|Jm3 2 R<|Ji4 j 3 [c] R Y30 bS R λac ad _ G _ S=>Tv<|Ob h λ_ Z h=>Jd4 G E6 2 [] R Y30 bS R Fct (FY (cd _) S.rdc) bU Z R λO N _ H _ T=>Tv<|Jc 1 R<|Oh h<|Jw1 _ ⟨H,O,N,R,Fct,T⟩<|KM R)
 rintro _ _ ⟨F,n,m,rfl,_,Q⟩
 exact have h:=V;Jz (Jp<|Jg3 R<|wr2 A p u.len_le ▸ (Ou h v (λv=>Ja2 ⟨F,c+1,x,n,m,R,Fct,Q,nxz A,nxm p,v⟩ R)))
 rintro _ _ ⟨I,q,o,k,rfl,_,P,rfl⟩
 exact have h:=yI W;Jp (Jf3 R<|Ju<|Jb2 (l:=[.tmp 2]) results206 (Jq2 R R) R<|Oh h<|⟨I,o,k,R,Fct,P⟩)
theorem lH {k q}{p0:VB}{p1:Bool}(g:Rd Rp.bool J w 0 k q p0){r:Int}(h:fk p0 p1=some r):Ret prog 175 [.slice k p0.length q,.bool p1] w (Pvi J w r):=by
 refine Jp3 J func175 R ntmps175 R λy=>Jf3 R<|Jq<|Jl3 1 R<|Js3 R U179 R R<|Jb 1 R<|Ob h λp v m=>Jx1 (λf i=>∃j,f=[]/\Stp [] J w j i/\p=FX ()) (Jv<|Ju3 [0,1,7] (λc s f i=>∃j b,f=(8,vi b)::s/\Stp [] J w j i/\0<=b/\FV ((p0.length:Int)-b)=c/\cntM (dy p0 p1) c b ()=some p) ⟨_,_,⟨J,0,R,Jo3,(by decide),(by simp),v⟩,(KM R)⟩ ?_) ?_
 rintro c _ _ ⟨e,b,rfl,u,n,d,h⟩
 rcases c with _|c
 exact Jf3 R<|Jq<|Jx2 R (dcf d)<|Jc1<|Jt<|Jt<|Jb1<|Oh h<|Jw1 _ ⟨e,R,Fct,R⟩ KN
 refine Ob h λz h a=>Jf3 R<|Jq<|Jw2 R (dct d)<|Js<|Jp<|Jq<|Jv<|Jf3 R<|Jl3 3 R<|Ob h λA o h=>Jd3 R g o U179 Z4<|Jc3 R I4 ((g.stp u).gBool o)<|Jf R (Dl R R runUnderlying4 R)<|Jd ?_
 exact Bk h (λx h=>Jy R<|Js<|Jz<|Jp<|Jg3 R<|wr2 n d g.len_le ▸ (Ou h a (λa=>Ja2 ⟨e,b+1,R,Fct,nxz n,nxm d,a⟩ R))) (λx h=>Jx R<|Jf3 R<|Ju<|Ja1<|Jw<|Jw<|Ou h a (λa=>Ov a m (λh=>Ja1<|Jr2<|Jw<|Jb2 (l:=[.tmp 4]) results175 (Jq2 R R) R<|Oh h<|⟨e,R,Fct⟩)))
 rintro _ _ ⟨t,rfl,_,rfl⟩
 exact have h:=yI m;Jp (Jf3 R<|Ju<|Jb2 (l:=[.tmp 4]) results175 (Jq2 R R) R<|Oh h<|⟨t,R,Fct⟩)
theorem xJ {u y v x}{p0:Arena}(U:Rd Ri J w 0 u y p0.Owner) (V:Rd Rs J w 0 v x p0.Next){r:VI}(h:qz p0=some r):Ret prog 185 [.agg #[.slice u p0.Owner.length y,.slice v p0.Next.length x]] w (Pvs E6 2 J w r):=by
 refine Jp3 J func185 R ntmps185 R λW=>Jj3<|Jx3 J 2 R λ_ _ H _ M=>Tv<|Jb 1 R<|Jj3<|Je3 R U53 R Z30<|Jc3 R I30 (M.ld 0 R R)<|Js3 R U30 R R<|Ob h λf T h=>Jl1 (J:=H) (E:=E6) (z:=(0:Int)) 3 R R R R R R R Y30 bS R R R R R (λ_ _ _=>R) (Jv2 T) λn s E k _ A=>Tv<|Jb 1 R<|Jq<|Jl3 1 R<|Js3 R U30 R R<|Jb 1 R<|Ob h λD Q N=>Jt3 [3] (λb m e=>∃g,∃j:VI,m=b/\Stp [3] k E g e/\Oc E6 2 g e 3 n s j/\f.length=j.length/\D=FX j) (Jv<|Ju3 [3,10] (λc b m e=>∃g a,∃d:VI,m=(11,vi a)::b/\Stp [3] k E g e/\Oc E6 2 g e 3 n s d/\f.length=d.length/\0<=a/\FV ((f.length:Int)-a)=c/\cntM ox c a d=some D) ⟨_,_,⟨k,0,f,R,Jo3,A,R,(by decide),(by simp),Q⟩,(KM R)⟩ ?_) ?_
 rintro c _ _ ⟨t,a,d,rfl,_,o,q,B,i,h⟩
 rcases c with _|c
 exact Jf3 R<|Jq<|Jx2 R (dcf i)<|Jc1<|Jt<|Jt<|Jb1<|Oh h<|Jw1 _ ⟨t,d,R,Fct,o,q,R⟩<|KM R
 exact Ob h λX h p=>Jf3 R<|Jq<|Jw2 R (dct i)<|Js<|Jp<|Jq<|Jv<|Jf3 R<|Jm3 2 R<|Ob h λ_ S h=>Jf R (Jg2 o.rdc S U30 Z2 R R q R) (Ob h λF C h=>Jk1 (J:=t) (E:=E6) 3 [] R R R R R R R R Z2 R R R R o C λ_ I _ L=>Tv<|have P:f.length=F.length:=q.trans (Ju2 C).2.2.2.symm;Jo (Jz<|Jp<|Jg3 R<|wr2 B i A.len_le ▸ (Ou h p (λp=>Ja2 ⟨I,a+1,F,R,Fct,L,P,nxz B,nxm i,p⟩ R))))
 rintro _ _ ⟨G,j,rfl,_,_,O,rfl⟩
 exact have h:=yI N;Jp (Jf3 R<|Ju<|Jb2 (l:=[.tmp 2]) results185 (Jq2 R R) R<|Oh h<|⟨(λK=>ren [(3,2)]<|G K),n,s,(by simp only[O]),Fct,Fct⟩)
theorem tG {t y}{p0:VV}(p:Rd Rs J w 0 t y p0){r:VV}(h:oo p0=some r):Ret prog 243 [.slice t p0.length y] w (Pvs (FU E6 2) 30 J w r):=by
 refine Jp3 J func243 R ntmps243 R λai=>Jf3 R<|Jj3<|Jc4 J (FU E6 2) 2 R Y51 bY R λK ac z n I W=>Tv<|Jb 1 R<|Jq<|Jl3 1 R<|Js3 R U51 R R<|Jb 1 R<|Ob h λx Z X=>Jx1 (λo d=>∃e,∃m:VV,∃i f,o=[(3,.slice i m.length f)]/\Stp [2,3,4] n z e d/\Oc (FU E6 2) 30 e d 2 i f m/\x=FX m) (Jv<|Ju3 [7,8] (λb B o d=>∃e a,∃c:VV,∃g j,o=(3,.slice g c.length j)::(9,vi a)::B/\Stp [2,3,4] n z e d/\Oc (FU E6 2) 30 e d 2 g j c/\0<=a/\FV ((p0.length:Int)-a)=b/\cntM (iP p0) b a c=some x) ⟨_,_,⟨n,0,([]:VV),K,ac,R,Jo3,W,(by decide),(by simp),Z⟩,(KM R)⟩ ?_) ?_
 rintro b _ _ ⟨s,a,c,g,j,rfl,H,Q,u,k,h⟩
 rcases b with _|b
 exact Jf3 R<|Jq<|Jx2 R (dcf k)<|Jc1<|Jt<|Jt<|Jb1<|Oh h<|Jw1 _ ⟨s,c,g,j,R,Fct,Q,R⟩<|KM R
 refine Ob h λo5 h q=>Jf3 R<|Jq<|Jw2 R (dct k)<|Js<|Jp<|Jq<|Jv<|Jj3<|Ob h λ_ v h=>Jd3 R p v U51 Z30 ?_
 obtain⟨_,_,_,Y⟩:=(p.stp (I.tr H)).gSl v
 exact Jc3 R I30 Y<|Jb 1 R<|Jm3 1 R<|Jc4 s E6 3 R Y30 bS R λaf ag _ C _ S=>Tv<|Jn 1 R<|Ob h λA aa h=>Jd4 C E6 3 [] R Y30 bS R S (FY (cd _) Fct) bU aa R λO M _ D _ T=>Tv<|Jb4 D (FU E6 2) 4 [3] (parts:=[(0,.tmp 16)]) (cells:=[.slice O A.length M]) (xs:=([A]:VV)) R Y51 bY R (Jj4 ⟨_,_,R,T⟩) λae ah _ E _ U=>Tv<|Ob h λad ab h=>Jd4 E (FU E6 2) 2 [4] R Y51 bY R Fct U.src (c9 R) ab R λN L _ F _ V=>Tv<|Jc 1 R<|Jz<|Jp<|Jg3 R<|wr2 u k p.len_le ▸ (Ou h q (λq=>Ja2 ⟨F,a+1,ad,N,L,R,Fct,V,nxz u,nxm k,q⟩ R))
 rintro _ _ ⟨G,m,i,f,rfl,_,P,rfl⟩
 exact have h:=yI X;Jp (Jf3 R<|Ju<|Jb2 (l:=[.tmp 2]) results243 (Jq2 R R) R<|Oh h<|⟨G,i,f,R,Fct,P⟩)
theorem kl {p0:(List ByteArray)}{p1:ByteArray}{a b}(c:Rd Rp.str J w 0 a b p0){r:ByteArray}(h:strings_Join p0 p1=some r):Ret prog 121 [.slice a p0.length b,.string p1] w (λd e=>∃(f:Col),d= .string r/\Ent J w f e):=CT Tryz.strings_Join_none Tryz.strings_Join c h
theorem n8 {p0 p1 p2:ByteArray}(a:Vm 2 J w){r:ByteArray}(h:strings_ReplaceAll p0 p1 p2=some r):Ret prog 65 [.string p0,.string p1,.string p2] w (λb c=>∃(d:Col),b= .string r/\Ent J w d c):=Dh Tryz.strings_ReplaceAll a h
theorem tL {p0:Int}{e j}{c0:VI}{a}(t:Oc E6 2 J w 2 e j c0) (o:Bc J w 3 a 30 [.slice e c0.length j]){r:VI}(h:ot p0 c0=some r):Ret prog 268 [vi p0,.pointer (some ⟨a,0,none⟩)] w (λq b=>∃c g i,q= .tuple #[]/\Ent J w c b/\Oc E6 2 c b 2 g i r/\Bc c b 3 a 30 [.slice g r.length i]):=by
 exact Jp3 J func268 R ntmps268 R λu=>Jk3<|Jc3 R I30 (o.ld 0 R R)<|Jn 1 R<|Ji4 J 4 [p0] R Y30 bS R λ_ _ _ l _ n=>Tv<|Ob h λs p h=>Jd4 l E6 2 [] R Y30 bS R Fct (FY (cd _) n.rdc) bU p R λf k _ d _ _=>Tv<|Ja4 d 3 (vc:=[.slice f s.length k]) R Z30 R Fct R λ_ _ m=>Tv<|Jo<|DN.end0 results268<|Oh h<|⟨d,f,k,R,Fct,Fct,m⟩
theorem tQ {p0:Bool}  {r:ByteArray}(h:qD p0=some r):Ret prog 66 [.bool p0] w (λc d=>∃e,c= .string r/\Ent J w e d):=by
 unfold qD at h
 refine Jp3 J func66 R ntmps66 R λa=>Jf3 R<|Jq<|Jf3 R ?_
 exact Bk h (λb h=>Jy R<|Js<|Jp<|Jf3 R<|Ju<|Jb2 (l:=[.tmp 2]) results66 (Jq2 R R) R<|Oh h<|⟨J,R,a⟩) (λb h=>Jx R<|Jf3 R<|Ju<|Jw<|Jb2 (l:=[.tmp 2]) results66 (Jq2 R R) R<|Oh h<|⟨J,R,a⟩)
theorem om {a d c g b f e i}{p0:bench}{p1:ByteArray}{j}(n:Rd Clause.rp J w 0 a d p0.clauses) (o:Rd Ri J w 0 c g p0.game.Arena.Owner) (p:Rd Rs J w 0 b f p0.game.Arena.Next) (q:Rd Ri J w 0 e i p0.game.Prio) (s:Bc J w 0 j 57 [vi p0.sig.In,vi p0.sig.Out,.slice a p0.clauses.length d,.slice c p0.game.Arena.Owner.length g,.slice b p0.game.Arena.Next.length f,.slice e p0.game.Prio.length i]){r:ByteArray}(h:iO p0 p1=some r):Ret prog 36 [.pointer (some ⟨j,0,none⟩),.string p1] w (λk l=>∃m,k= .string r/\Ent J w m l):=by
 unfold iO at h
 cases h
theorem rD {a d c g b f e i}{p0:bench}{p1:ByteArray}{p2:ByteArray}{j}(n:Rd Clause.rp J w 0 a d p0.clauses) (o:Rd Ri J w 0 c g p0.game.Arena.Owner) (p:Rd Rs J w 0 b f p0.game.Arena.Next) (q:Rd Ri J w 0 e i p0.game.Prio) (s:Bc J w 0 j 57 [vi p0.sig.In,vi p0.sig.Out,.slice a p0.clauses.length d,.slice c p0.game.Arena.Owner.length g,.slice b p0.game.Arena.Next.length f,.slice e p0.game.Prio.length i]){r:ByteArray}(h:mo p0 p1 p2=some r):Ret prog 41 [.pointer (some ⟨j,0,none⟩),.string p1,.string p2] w (λk l=>∃m,k= .string r/\Ent J w m l):=by
 unfold mo at h
 cases h
theorem wV {p0:Int}  {r:Pair}(h:pB p0=some r):Ret prog 86 [vi p0] w (λag c=>∃d G I H K,ag= .agg #[.slice G r.Ask.length I,.slice H r.Give.length K]/\Ent J w d c/\Oc E6 2 d c 2 G I r.Ask/\Oc E6 2 d c 3 H K r.Give):=by
 refine Jp3 J func86 R ntmps86 R λai=>Jj3<|Jy3 J 2 R X120 R λ_ ah e _ _=>Tv<|Jd<|Jq<|Jf3 R<|Jv<|Jq<|Jf3 R<|Ob h λaf h Y=>Jt3 [2,3] (λM Q c=>∃d,Q=(4,.bool af)::M/\Stp [] e ah d c) ?_ ?_
 exact Bk h (λae h=>Jy R<|Jg3 R<|Oh h<|Jw1 _ ⟨e,R,Jo3⟩<|KM R) (λae h=>Jx R<|Js<|Oh h<|Jw1 _ ⟨e,R,Jo3⟩<|KM R)
 rintro _ _ ⟨b,rfl,_⟩
 refine have h:=Y;Jp ?_
 refine Bk h (λZ h=>Jy R<|Jf3 R ?_) (λZ h=>Jx R<|Jj3<|Ji4 b 3 [1] R Y30 bS R λn L _ f _ _=>Tv<|Jf R (Jn4 [.slice n ([1]:VI).length L,.slice none 0 0] R)<|Jm4 f 2 R Z120 R Fct R λ_ _ S=>Tv<|Jd<|Ju<|Ja1<|Jw<|Jb2 (l:=[.cell 2 120]) V86 (cc R S I120 Z120 R R) R<|Oh h<|⟨(λa=>ren [(3,2)]<|f a),n,L,none,0,R,Fct,Fct,Ow.nil⟩)
 refine Bk h (λaa h=>Jy R<|Jf3 R ?_) (λaa h=>Jx R<|Jj3<|Ji4 b 3 [2] R Y30 bS R λC B _ g _ _=>Tv<|Jf R (Jn4 [.slice C ([2]:VI).length B,.slice none 0 0] R)<|Jm4 g 2 R Z120 R Fct R λ_ _ T=>Tv<|Jd<|Ju<|Ja1<|Jw<|Jb2 (l:=[.cell 2 120]) V86 (cc R T I120 Z120 R R) R<|Oh h<|⟨(λa=>ren [(3,2)]<|g a),C,B,none,0,R,Fct,Fct,Ow.nil⟩)
 refine Bk h (λab h=>Jy R<|Jf3 R ?_) (λab h=>Jx R<|Jj3<|Ji4 b 3 [1] R Y30 bS R λs E _ N _ _=>Tv<|Ji4 N 4 [0] R Y30 bS R λA D _ i _ _=>Tv<|Jf R (Jn4 [.slice s ([1]:VI).length E,.slice A ([0]:VI).length D] R)<|Jm4 i 2 R Z120 R Fct R λ_ _ U=>Tv<|Jd<|Ju<|Ja1<|Jw<|Jb2 (l:=[.cell 2 120]) V86 (cc R U I120 Z120 R R) R<|Oh h<|⟨(λa=>ren [(3,2),(4,3)]<|i a),s,E,A,D,R,Fct,Fct,Fct⟩)
 refine Bk h (λac h=>Jy R<|Jf3 R ?_) (λac h=>Jx R<|Jj3<|Ji4 b 3 [0,1] R Y30 bS R λv x _ O _ _=>Tv<|Ji4 O 4 [1] R Y30 bS R λz o _ j _ _=>Tv<|Jf R (Jn4 [.slice v ([0,1]:VI).length x,.slice z ([1]:VI).length o] R)<|Jm4 j 2 R Z120 R Fct R λ_ _ V=>Tv<|Jd<|Ju<|Ja1<|Jw<|Jb2 (l:=[.cell 2 120]) V86 (cc R V I120 Z120 R R) R<|Oh h<|⟨(λa=>ren [(3,2),(4,3)]<|j a),v,x,z,o,R,Fct,Fct,Fct⟩)
 exact Bk h (λad h=>Jy R<|Js<|Jz<|Jp<|Jj3<|Ji4 b 3 [2,3] R Y30 bS R λy q _ P _ _=>Tv<|Ji4 P 4 [1,3] R Y30 bS R λu F _ m _ _=>Tv<|Jf R (Jn4 [.slice y ([2,3]:VI).length q,.slice u ([1,3]:VI).length F] R)<|Jm4 m 2 R Z120 R Fct R λ_ _ X=>Tv<|Jd<|Ju<|Jb2 (l:=[.cell 2 120]) V86 (cc R X I120 Z120 R R) R<|Oh h<|⟨(λa=>ren [(3,2),(4,3)]<|m a),y,q,u,F,R,Fct,Fct,Fct⟩) (λad h=>Jx R<|Jj3<|Ji4 b 3 [0] R Y30 bS R λt p _ k _ _=>Tv<|Jf R (Jn4 [.slice t ([0]:VI).length p,.slice none 0 0] R)<|Jm4 k 2 R Z120 R Fct R λ_ _ W=>Tv<|Jd<|Ju<|Ja1<|Jw<|Jb2 (l:=[.cell 2 120]) V86 (cc R W I120 Z120 R R) R<|Oh h<|⟨(λa=>ren [(3,2)]<|k a),t,p,none,0,R,Fct,Fct,Ow.nil⟩)
theorem uw {p0:Int}  {r:Int}(h:j7 p0=some r):Ret prog 87 [vi p0] w (Pvi J w r):=by
 unfold j7 at h
 refine Jp3 J func87 R ntmps87 R λa=>Jf3 R<|Jq<|Jf3 R<|Jv<|Jf3 R ?_
 refine Bk h (λb h=>Jy R<|Jf3 R ?_) (λb h=>Jx R<|Jf3 R<|Ju<|Ja1<|Jw<|Jb2 (l:=[.tmp 2]) results87 (Jq2 R R) R<|Oh h<|⟨J,R,a⟩)
 exact Bk h (λc h=>Jy R<|Js<|Jz<|Jp<|Jf3 R<|Ju<|Jb2 (l:=[.tmp 2]) results87 (Jq2 R R) R<|Oh h<|⟨J,R,a⟩) (λc h=>Jx R<|Jf3 R<|Ju<|Ja1<|Jw<|Jb2 (l:=[.tmp 2]) results87 (Jq2 R R) R<|Oh h<|⟨J,R,a⟩)
theorem oJ {p0:Bool}  {r:Int}(h:gx p0=some r):Ret prog 95 [.bool p0] w (Pvi J w r):=by
 unfold gx at h
 refine Jp3 J func95 R ntmps95 R λa=>Jf3 R<|Jq<|Jf3 R ?_
 exact Bk h (λb h=>Jy R<|Js<|Jp<|Jf3 R<|Ju<|Jb2 (l:=[.tmp 2]) results95 (Jq2 R R) R<|Oh h<|⟨J,R,a⟩) (λb h=>Jx R<|Jf3 R<|Ju<|Jw<|Jb2 (l:=[.tmp 2]) results95 (Jq2 R R) R<|Oh h<|⟨J,R,a⟩)
theorem oI {a b}{p0:VI}(k:Rd Ri J w 0 a b p0){r:VI}(h:eO p0=some r):Ret prog 151 [.slice a p0.length b] w (Pvs E6 2 J w r):=by
 exact Jp3 J func151 R ntmps151 R λm=>Jf3 R<|Jj3<|Jc4 J E6 2 R Y30 bS R λ_ _ _ c _ f=>Tv<|Jn 1 R<|Ob h λ_ i h=>Jd4 c E6 2 [] R Y30 bS R f (FY (cd _) Fct) bU i R λe j _ d _ g=>Tv<|Jb 1 R<|Ju<|Jb2 (l:=[.tmp 2]) results151 (Jq2 R R) R<|Oh h<|⟨d,e,j,R,Fct,g⟩
theorem oH {k q}{p0:VI}{p1:Int}(g:Rd Ri J w 0 k q p0){r:Bool}(h:mR p0 p1=some r):Ret prog 212 [.slice k p0.length q,vi p1] w (Pvb J w r):=by
 refine Jp3 J func212 R ntmps212 R λy=>Jf3 R<|Jq<|Jf3 R<|Ob h λp v m=>Jx1 (λf i=>∃j,f=[]/\Stp [] J w j i/\p=FX ()) (Jv<|Ju3 [0,1] (λc s f i=>∃j b,f=(5,vi b)::s/\Stp [] J w j i/\0<=b/\FV ((p0.length:Int)-b)=c/\cntM (mb p0 p1) c b ()=some p) ⟨_,_,⟨J,0,R,Jo3,(by decide),(by simp),v⟩,(KM R)⟩ ?_) ?_
 rintro c _ _ ⟨e,b,rfl,u,n,d,h⟩
 rcases c with _|c
 exact Jq<|Jl3 2 R<|Js3 R U30 R R<|Jb 1 R<|Jx2 R (dcf d)<|Jc1<|Jt<|Jt<|Jb1<|Oh h<|Jw1 _ ⟨e,R,Fct,R⟩ KN
 refine Ob h λz h a=>Jq<|Jl3 2 R<|Js3 R U30 R R<|Jb 1 R<|Jw2 R (dct d)<|Js<|Jp<|Jq<|Jv<|Jl3 2 R<|Ob h λA o h=>Jd3 R g o U30 Z2<|Jc3 R I2 ((g.stp u).gInt o)<|Jb 2 R ?_
 exact Bk h (λx h=>Jy R<|Js<|Jz<|Jp<|Jg3 R<|wr2 n d g.len_le ▸ (Ou h a (λa=>Ja2 ⟨e,b+1,R,Fct,nxz n,nxm d,a⟩ R))) (λx h=>Jx R<|Jf3 R<|Ju<|Ja1<|Jw<|Jw<|Ou h a (λa=>Ov a m (λh=>Ja1<|Jr2<|Jw<|Jb2 (l:=[.tmp 4]) results212 (Jq2 R R) R<|Oh h<|⟨e,R,Fct⟩)))
 rintro _ _ ⟨t,rfl,_,rfl⟩
 exact have h:=yI m;Jp (Jf3 R<|Ju<|Jb2 (l:=[.tmp 4]) results212 (Jq2 R R) R<|Oh h<|⟨t,R,Fct⟩)
theorem uu {L W}{p0:VI}(j:Rd Ri J w 0 L W p0){r:VI}(h:mc p0=some r):Ret prog 155 [.slice L p0.length W] w (Pvs E6 2 J w r):=by
 refine Jp3 J func155 R ntmps155 R λaP=>Jf3 R<|Jj3<|Jc4 J E6 2 R Y30 bS R λah aD X u H am=>Tv<|Jb 1 R<|Jq<|Jf3 R<|Ob h λU aw au=>Jx1 (λd b=>∃c,∃t:VI,∃p n,d=[(3,.slice p t.length n)]/\Stp [3] u X c b/\Oc E6 2 c b 2 p n t/\U=FX t) (Jv<|Ju3 [0] (λa g d b=>∃c f,∃e:VI,∃o q,d=(3,.slice o e.length q)::(4,vi f)::g/\Stp [3] u X c b/\Oc E6 2 c b 2 o q e/\0<=f/\FV ((p0.length:Int)-f)=a/\cntM (ji p0) a f e=some U) ⟨_,_,⟨u,0,([]:VI),ah,aD,R,Jo3,am,(by decide),(by simp),aw⟩,(KM R)⟩ ?_) ?_
 rintro a _ Y ⟨m,f,e,o,q,rfl,v,i,M,s,h⟩
 rcases a with _|a
 exact Jq<|Jl3 2 R<|Js3 R U30 R R<|Jb 1 R<|Jx2 R (dcf s)<|Jc1<|Jt<|Jt<|Jb1<|Oh h<|Jw1 _ ⟨m,e,o,q,R,Fct,i,R⟩<|KM R
 refine Ob h λo5 h B=>Jq<|Jl3 2 R<|Js3 R U30 R R<|Jb 1 R<|Jw2 R (dct s)<|Js<|Jp<|Jq<|Jv<|Jl3 1 R<|Js3 R U30 R R<|Jb 1 R<|Jq<|Ob h λV av aq=>Jt3 [0,3,4] (λg d b=>∃c C,d=(5,vi C)::g/\Stp [] m Y c b/\V=FX C) (Jv<|Ju3 [0,3,4] (λa g d b=>∃c k,d=(5,vi k)::g/\Stp [] m Y c b/\ci (jk p0 f e) a k=some V) ⟨_,_,⟨m,((e.length:Int):Int),R,Jo3,av⟩,(KM R)⟩ ?_) ?_
 rintro a _ _ ⟨D,k,rfl,F,h⟩
 rcases a with _|a
 cases h
 refine Ob h λ_ h N=>Jq<|Jq<|Xn D [0,2] [2,5,8,11,14,17,20,26,29,32,21,33,38,41] λaE G=>Jn 3 R<|Ob h λaC h ar=>Jk4 [0,3,4,5] 29 aC D aE 11 (Cl.refl _ _ _) ?_ ?_
 exact Bk h (λax h=>Jn 7 R<|Jf4 R<|Jf4 R<|Jn 2 R<|Oh h<|Jv1 _ (Cl.refl _ _ _) ⟨R,_,Jo3⟩<|KM R) (λax h=>Jn 3 R<|Ob h λ_ O h=>Jd3 R i.rdc O U30 Z2<|Jn 2 R<|Ob h λ_ P h=>Jd3 R j P U30 Z2<|Jg R (Jd2 I2 R R<|hvC ((i.stp<|F.tr G).rdc.gInt O) R)<|Jg R (Jd2 I2 R R<|hvC ((j.stp<|T4 H v F G).gInt P) R)<|Jn 2 R<|Oh h<|Jv1 _ (Cl.refl _ _ _) ⟨R,_,Jo3⟩<|KM R)
 rintro _ _ _ ⟨rfl,E,_⟩
 refine have h:=ar;Jt1 (Jd ?_)
 refine Bk h (λay h=>Jy R<|Jc1<|Jt<|Jt ?_) (λay h=>Jx R<|Js<|Jp<|Jv<|Jg3 R<|Jz ?_)
 cases h
 exact have h:=N;Jb1 (Oh h<|Jw1 _ ⟨E,k,R,Fct,R⟩<|KM R)
 cases h
 exact Ja2 ⟨E,((FW .i64<|k-1):Int),R,Fct,N⟩ R
 rintro _ _ ⟨Z,C,rfl,x,rfl⟩
 exact have h:=yI aq;Jp (Jj3<|Jc4 Z E6 3 R Y30 bS R λaK aL _ aa y an=>Tv<|Jn 2 R<|Ob h λ_ Q h=>Jf R (oD (k1:= .i64) (k2:= .i64) U30 Z2 (.inl ⟨R,R⟩) (.inr ⟨_,R,R⟩) Q i.rdc.1 R R R) (have A:=i.stp (x.tr y);Ob h λ_ az h=>Jd4 aa E6 3 [] R Y30 bS R an (FY (cd _)<|A.rdc.sub Q) bU az R λaM aJ _ ab z _=>Tv<|Jb 1 R<|Jl3 3 R<|Ob h λaF S h=>Jd3 R j S U30 Z2<|Jc3 R I2 ((j.stp<|T5 H v x y z).gInt S)<|Ji4 ab 4 [aF] R Y30 bS R λaN aH _ ac I ao=>Tv<|Ob h λ_ aA h=>Jd4 ac E6 3 [] R Y30 bS R Fct (FY (cd _) ao.rdc) bU aA R λaI aO _ ad K ap=>Tv<|Jb 1 R<|Jm3 3 R<|Ob h λ_ T h=>Jf R (oD (k1:= .i64) (k2:= .i64) U30 Z2 (.inr ⟨_,R,R⟩) (.inl ⟨R,R⟩) T A.rdc.1 R R R)<|Ob h λaG aB h=>Jd4 ad E6 3 [] R Y30 bS R ap (FY (cd _) ((A.stp<|T3 z I K).rdc.sub T)) bU aB R λai aj _ ae ag _=>Tv<|Jc 1 R<|Jz<|Jp<|Jg3 R<|wr2 M s j.len_le ▸ (Ou h B (λB=>Ja2 ⟨(λak=>ren [(3,2)]<|ae ak),f+1,aG,ai,aj,R,(Jz2 ((T7 v x y z I K ag).wk R) [(3,2)] R),Fct,nxz M,nxm s,B⟩ R))))
 rintro _ _ ⟨af,t,p,n,rfl,_,al,rfl⟩
 exact have h:=yI au;Jp (Jf3 R<|Ju<|Jb2 (l:=[.tmp 2]) results155 (Jq2 R R) R<|Oh h<|⟨af,p,n,R,Fct,al⟩)
theorem zp {p0:Int}  {r:VI}(h:tg p0=some r):Ret prog 162 [vi p0] w (Pvs E6 2 J w r):=by
 refine Jp3 J func162 R ntmps162 R λT=>Jf3 R<|Jj3<|Jc4 J E6 2 R Y30 bS R λy N q k _ E=>Tv<|Jb 1 R<|Jq<|Jf3 R<|Ob h λp H G=>Jx1 (λm b=>∃c,∃j:VI×Int,∃f d,m=[(3,.slice f j.1.length d)]/\Stp [2] k q c b/\Oc E6 2 c b 2 f d j.1/\p=FX j) (Jv<|Ju3 [0] (λi s m b=>∃c,∃a:VI×Int,∃e g,m=(3,.slice e a.1.length g)::(4,vi a.2)::s/\Stp [2] k q c b/\Oc E6 2 c b 2 e g a.1/\ci (nv p0) i a=some p) ⟨_,_,⟨k,(([]:VI),(0:Int)),y,N,R,Jo3,E,H⟩,(KM R)⟩ ?_) ?_
 rintro i _ O ⟨t,a,e,g,rfl,_,_,h⟩
 rcases i with _|i
 cases h
 refine Ob h λ_ h o=>Jq<|Jl3 4 R<|Ob h λM h F=>Jk4 [0,3,4] 12 M t O 3 tv ?_ ?_
 exact Bk h (λI h=>Jn 3 R<|Oh h<|Jl4 tv R) (λI h=>Jn 3 R<|Oh h<|Jl4 tv R)
 rintro _ _ _ ⟨rfl,n,_⟩
 refine have h:=F;Jd ?_
 refine Bk h (λK h=>Jy R<|Jc1<|Jt<|Jt ?_) (λK h=>Jx R<|Js<|Jp<|Jq<|Jv<|Jm3 2 R<|Ji4 n 3 [a.2] R Y30 bS R λQ S _ u _ C=>Tv<|Ob h λP L h=>Jd4 u E6 2 [] R Y30 bS R Fct (FY (cd _) C.rdc) bU L R λA z _ v _ D=>Tv<|Jc 1 R<|Jz<|Jp<|Jg3 R ?_)
 cases h
 exact have h:=o;Jb1 (Oh h<|Jw1 _ ⟨n,(a.1,a.2),e,g,R,Fct,Fct,R⟩<|KM R)
 cases h
 exact Ja2 ⟨v,(P,((FW .i64<|a.2+1):Int)),A,z,R,Fct,D,o⟩ R
 rintro _ _ ⟨x,j,f,d,rfl,_,B,rfl⟩
 exact have h:=yI G;Jp (Jf3 R<|Ju<|Jb2 (l:=[.tmp 2]) results162 (Jq2 R R) R<|Oh h<|⟨x,f,d,R,Fct,B⟩)
theorem sx {x H}{p0:VB}{y I}{p1:VB}(o:Rd Rp.bool J w 0 x H p0) (B:Rd Rp.bool J w 0 y I p1){r:VB}(h:oO p0 p1=some r):Ret prog 216 [.slice x p0.length H,.slice y p1.length I] w (Pvs Ep.bool 4 J w r):=by
 refine Jp3 J func216 R ntmps216 R λad=>Jf3 R<|Jl3 1 R<|Js3 R U179 R R<|Ob h λj aa h=>Jl1 (J:=J) (E:=Ep.bool) (z:=(false:Bool)) 2 R R R R R R R Y179 dw R R R R R (λ_ _ _=>R) (Jv2 aa) λn s K k v S=>Tv<|Jb 1 R<|Jq<|Jf3 R<|Ob h λG X U=>Jt3 [5] (λb m e=>∃f,∃i:VB,m=b/\Stp [2] k K f e/\Oc Ep.bool 4 f e 2 n s i/\j.length=i.length/\G=FX i) (Jv<|Ju3 [0,1,5] (λc b m e=>∃f a,∃d:VB,m=(6,vi a)::b/\Stp [2] k K f e/\Oc Ep.bool 4 f e 2 n s d/\j.length=d.length/\0<=a/\FV ((p0.length:Int)-a)=c/\cntM (mf p0 p1) c a d=some G) ⟨_,_,⟨k,0,j,R,Jo3,S,R,(by decide),(by simp),X⟩,(KM R)⟩ ?_) ?_
 rintro c _ ac ⟨t,a,d,rfl,u,A,q,C,g,h⟩
 rcases c with _|c
 exact Jq<|Jl3 2 R<|Js3 R U179 R R<|Jb 1 R<|Jx2 R (dcf g)<|Jc1<|Jt<|Jt<|Jb1<|Oh h<|Jw1 _ ⟨t,d,R,Fct,A,q,R⟩<|KM R
 refine Ob h λo5 h p=>Jq<|Jl3 2 R<|Js3 R U179 R R<|Jb 1 R<|Jw2 R (dct g)<|Js<|Jp<|Jq<|Jv<|Jm3 4 R<|Ob h λae D h=>Jd3 R o D U179 Z4<|Jc3 R I4 ((o.stp<|v.tr u).gBool D)<|Jn 1 R<|Ob h λab h T=>Jk4 [0,1,5,6,16,17] 28 ab t ac 6 tv ?_ ?_
 exact Bk h (λY h=>Jn 3 R<|Je4 R<|Jn 2 R<|Oh h<|Jl4 tv R) (λY h=>Jn 2 R<|Ob h λ_ E h=>Jd3 R B E U179 Z4<|Jc3 R I4 ((B.stp<|v.tr u).gBool E)<|Jn 2 R<|Oh h<|Jl4 tv R)
 rintro _ _ _ ⟨rfl,M,_⟩
 exact Ob T λ_ Z h=>Jf R (Jg2 A.rdc Z U179 Z4 R R q R) (Ob h λL F h=>Jk1 (J:=M) (E:=Ep.bool) 2 [] R R R R R R R R Z4 R R R R Fct F λ_ N _ Q=>Tv<|have W:j.length=L.length:=q.trans (Ju2 F).2.2.2.symm;Jo (Jz<|Jp<|Jg3 R<|wr2 C g o.len_le ▸ (Ou h p (λp=>Ja2 ⟨N,a+1,L,R,Fct,Q,W,nxz C,nxm g,p⟩ R))))
 rintro _ _ ⟨O,i,rfl,_,P,V,rfl⟩
 exact have h:=yI U;Jp (Jf3 R<|Ju<|Jb2 (l:=[.tmp 4]) results216 (Jq2 R R) R<|Oh h<|⟨O,n,s,(by simp only[V]),Fct,P⟩)
end
end Go.Proofs.YtldlmopdhmaceaaGreatDoor
