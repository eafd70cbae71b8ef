/- The walks, part 8. By program. -/
import Derived.Test.YtpcjbkgbnoocaaaGreatFns3MO
import Derived.Test.YtpcjbkgbnoocaaaGreatFns4MO
import Derived.Test.YtpcjbkgbnoocaaaGreatFns5MO
set_option linter.unusedVariables false
set_option linter.unusedSimpArgs false
open Go.IntKind renaming wrap → t0
open Sum renaming inr → xe
namespace Go.Proofs.YtpcjbkgbnoocaaaGreat
open Go Go.Wk Go.Proofs
set_option maxRecDepth 100000
set_option maxHeartbeats 1000000
variable {w:World}{κ:Col}
theorem eZ {p0:Sig}  {r:Int}(h:cV p0=some r):Ret Tryz.prog 58 [.agg #[vi p0.In,vi p0.Out]] w (Pvi κ w r):=by
 unfold cV at h
 refine Jk3 κ F58 R N58 R λhE=>Je [1,2] R<|Jf1 (κ:=κ) 2 R R R R R R R λb1 w1 K2 S3 f4=>Tv<|Jb 1 R<|Jq<|Je [1,1,2] R<|Jl tv R R R R (Jd2 (cs:=[vi p0.In,vi p0.Out]) I25 Z25 R R R<|haE f4.cells)<|Ob h λx4 hx4 h=>Jh R R R C102 (kc (κ:=Mk K2) (p0:=p0) hx4) ?_
 rintro _ w5 ⟨k6,rfl,e7⟩
 obtain⟨K8,S9,m10⟩:=Ji e7 3 R
 refine Tv<|Jb 1 R ?_
 revert h
 cases ht12:(!x4)
 refine JF λh=>Jy R<|Js<|Jp<|Je [2,1,2,1,2,1,2] R<|Jd3 R U25 R Z2 ?_
 have f14:=f4.stp S9 R R
 refine Jb3 R I2 (f14.ld 0 R R)<|Jd3 R U25 R Z2<|Jb3 R I2 (f14.ld 1 R R)<|Jn 1 R<|Ob h λx11 hx11 h=>Jh R R R C59 (de (κ:=Mk K8) hx11) ?_
 rintro _ w15 ⟨k16,rfl,e17⟩
 obtain⟨K18,S19,m20⟩:=Ji e17 5 R
 refine Tv<|Jb 1 R<|Ju<|Ja2 (l:=[.tmp 2]) V58 (Jp2 R R) R ?_
 cases h
 exact⟨K18,R,(hE.stp (T3 S3 S9 S19) R R)⟩
 refine JT λh=>Jx R<|Je3 R<|Ju<|Jw<|Ja2 (l:=[.tmp 2]) V58 (Jp2 R R) R ?_
 cases h
 exact⟨K8,R,(hE.stp (S3.tr S9) R R)⟩
theorem oT {aH aK aF aI}{p0:Det}{aD aC aE aB}{p1:Det}{p2:Int}(g0_0:Rd (Rp.sl (Rp.int .i64)) κ w 0 aH aK p0.Next) (g0_1:Rd Pair.rp κ w 0 aF aI p0.Pairs) (g1_0:Rd (Rp.sl (Rp.int .i64)) κ w 0 aD aC p1.Next) (g1_1:Rd Pair.rp κ w 0 aE aB p1.Pairs){r:Det×Bool}(h:eg p0 p1 p2=some r):Ret Tryz.prog 164 [.agg #[.slice aH p0.Next.length aK,.slice aF p0.Pairs.length aI],.agg #[.slice aD p1.Next.length aC,.slice aE p1.Pairs.length aB],vi p2] w (λv w'=>∃(κ':Col) (ra0:Option Addr) (ru0:Nat) (ra1:Option Addr) (ru1:Nat),v= .tuple #[.agg #[.slice ra0 r.1.Next.length ru0,.slice ra1 r.1.Pairs.length ru1],.bool r.2]/\Ent κ w κ' w'/\Oc (Ep.own E6 2) 29 κ' w' 2 ra0 ru0 r.1.Next/\Oc Pair.ep154 154 κ' w' 3 ra1 ru1 r.1.Pairs):=by
 unfold eg at h
 refine Jk3 κ F164 R N164 R λhE=>Je [1,1,1,2] R<|Jf1 (κ:=κ) 2 R R R R R R R λb3 w1 K2 S3 f4=>Tv<|Jf1 (κ:=K2) 3 R R R R R R R λb4 w5 K6 S7 f8=>Tv<|Jg1 (κ:=K6) 4 R R R R R X100 R λb6 w9 K10 S11 f12=>Tv<|Jb 1 R<|Je [1,1,2] R<|Jn1 (κ:=K10) (E:=E6) 5 [] (parts:=[(0,.const (vi 0)),(1,.const (vi 0))]) (cells:=[vi 0,vi 0]) (xs:=([0,0]:List Int)) R R R R R R Y29 bG R R R R R R R R R R ⟨[vi 0],[vi 0],Zl K10 w9 [],Zl K10 w9 [],R,Zl.sp (l1:=[]) (l2:=[]) R,Zl.sr (l1:=[]) (l2:=[]),R,⟨[vi 0],[],Zl K10 w9 [],Zl K10 w9 [],R,Zl.sp (l1:=[]) (l2:=[]) R,Zl.sr (l1:=[]) (l2:=[]),R,R⟩⟩ λaA az w13 K14 S15 f16=>Tv<|Jn1 (κ:=K14) (E:=(Ep.own E6 2)) 6 [5] (parts:=[(0,.tmp 16)]) (cells:=[.slice aA ([0,0]:List Int).length az]) (xs:=([([0,0]:List Int)]:List (List Int))) R R R R R R Y26 bN R R R R R R R R R R ⟨[.slice aA ([0,0]:List Int).length az],[],Zl K14 w13 [5],Zl K14 w13 [],R,Zl.sp (l1:=[5]) (l2:=[]) R,Zl.sr (l1:=[5]) (l2:=[]),⟨_,_,R,f16⟩,R⟩ λaP aO w17 K18 S19 f20=>Tv<|Jb 1 R<|Je [2,1,1] R<|Jf R (bJ (parts:=[]) (cells:=[.slice none 0 0,.slice none 0 0]) R R (by kernel_rfl))<|Jg1 (κ:=K18) 7 R R R R R X100 R λb9 w21 K22 S23 f24=>Tv<|Jj1 (κ:=K22) 7 (vc:=[.slice none 0 0,.slice none 0 0]) R R R R R R R Z100 R R f24 R λw25 S26 f27=>Tv<|Jd<|Jq<|Je3 R<|Ob h λq2 hq30 hK29=>?_
 clear h
 refine Jx1 (λL w'=>∃κ',∃s3:(List<|List Int)×Int×(List<|List Int),∃av ax aa ab,L=[(3,.pointer (some ⟨b3,0,none⟩)),(4,.pointer (some ⟨b4,0,none⟩)),(6,.pointer (some ⟨b6,0,none⟩)),(8,.slice av s3.1.length ax),(9,.pointer (some ⟨b9,0,none⟩))]/\Stp [6,7,8,9,10,12,13] K22 w25 κ' w'/\Oc (Ep.own E6 2) 29 κ' w' 6 av ax s3.1/\Oc (Ep.own E6 2) 29 κ' w' 8 aa ab s3.2.2/\Bc κ' w' 7 b9 100 [.slice aa s3.2.2.length ab,.slice none 0 0]/\q2=xe s3) ?_ ?_
 refine Jv<|Jy1 (λk L w'=>∃κ',∃s1:(List<|List Int)×Int×(List<|List Int),∃am ae aq au,L=[(2,vi p2),(3,.pointer (some ⟨b3,0,none⟩)),(4,.pointer (some ⟨b4,0,none⟩)),(6,.pointer (some ⟨b6,0,none⟩)),(8,.slice am s1.1.length ae),(9,.pointer (some ⟨b9,0,none⟩)),(10,vi s1.2.1)]/\Stp [6,7,8,9,10,12,13] K22 w25 κ' w'/\Oc (Ep.own E6 2) 29 κ' w' 6 am ae s1.1/\Oc (Ep.own E6 2) 29 κ' w' 8 aq au s1.2.2/\Bc κ' w' 7 b9 100 [.slice aq s1.2.2.length au,.slice none 0 0]/\bZ (fh p0 p1 p2) k s1=some q2) ⟨_,_,⟨K22,((([([0,0]:List Int)]:List (List Int)):(List<|List Int)),(0:Int),(([]:List (List Int)):(List<|List Int))),aP,aO,none,0,R,Jj3,(f20.stp (S23.tr S26) R R),Ow.nil,f27,hq30⟩,(KM R)⟩ ?_
 rintro k _ w37 ⟨K38,s1,am,ae,aq,au,rfl,S39,f40,f41,f42,h⟩
 rcases k with _ | k
 cases h
 obtain⟨o28,h,hk44⟩:=BI h;unfold fh at h
 refine Jq<|Jg3 [2,2,2,2] 2 R<|Jn3 R U26 R R<|Jb 1 R ?_
 revert h
 cases ht45:decide (s1.2.1<(s1.1.length:Int))
 refine JF λh=>Jy R<|Jc1<|Jt<|Jt ?_
 cases h
 have h:=hk44
 refine Jb1 ?_
 cases h
 exact Jw1 _ ⟨K38,(s1.1,s1.2.1,s1.2.2),am,ae,aq,au,R,S39.wk R,f40,f41,f42,R⟩<|KM R
 refine JT λh=>Jx R<|Js<|Jp<|Jq<|Jv<|Je [1,2] R<|Jo1 (κ:=K38) (E:=E6) 9 R R R R R Y29 bG R λaQ aR w46 K47 S48 f49=>Tv<|Jb 1 R<|Jq<|Je3 R<|Ob h λ_ hr50 h=>?_
 have hN50:=iw hr50
 refine Ob h λq5 hq52 hK51=>?_
 clear h
 refine Jx1 (λL w'=>∃κ',∃s6:(List<|List Int)×(List Int),∃ar an ac ah,L=[(2,vi p2),(3,.pointer (some ⟨b3,0,none⟩)),(4,.pointer (some ⟨b4,0,none⟩)),(6,.pointer (some ⟨b6,0,none⟩)),(8,.slice ar s6.1.length an),(9,.pointer (some ⟨b9,0,none⟩)),(10,vi s1.2.1),(11,.slice ac s6.2.length ah)]/\Stp [6,9,12,13] K47 w46 κ' w'/\Oc (Ep.own E6 2) 29 κ' w' 6 ar an s6.1/\Oc E6 2 κ' w' 9 ac ah s6.2/\q5=xe s6) ?_ ?_
 refine Jv<|Jy1 (λk L w'=>∃κ' v12,∃s4:(List<|List Int)×(List Int),∃ak ai ad al,L=[(2,vi p2),(3,.pointer (some ⟨b3,0,none⟩)),(4,.pointer (some ⟨b4,0,none⟩)),(6,.pointer (some ⟨b6,0,none⟩)),(8,.slice ak s4.1.length ai),(9,.pointer (some ⟨b9,0,none⟩)),(10,vi s1.2.1),(11,.slice ad s4.2.length al),(12,vi v12)]/\Stp [6,9,12,13] K47 w46 κ' w'/\Oc (Ep.own E6 2) 29 κ' w' 6 ak ai s4.1/\Oc E6 2 κ' w' 9 ad al s4.2/\0<=v12/\Int.toNat (p2-v12)=k/\cntM (dK p0 p1 s1) k v12 s4=some q5) ⟨_,_,⟨K47,0,(s1.1,(([]:List Int):(List Int))),am,ae,aQ,aR,R,Jj3,(f40.stp S48 R R),f49,(by decide),(by simp),hq52⟩,(KM R)⟩ ?_
 rintro k _ w58 ⟨K59,v12,s4,ak,ai,ad,al,rfl,S60,f61,f62,hj50,hJ50,h⟩
 rcases k with _ | k
 have hk64:=h;obtain⟨o50,h⟩:=bP (xe (Sum.inl s4):(Det×Bool)⊕(((List (List Int))×(List Int))⊕((List (List Int))×(List Int))))
 have hc50:decide (v12<p2)=false:=Jo2 (by omega)
 refine Jq<|Je3 R<|Jw2 R hc50<|Jc1<|Jt<|Jt ?_
 cases h
 have h:=hk64
 refine Jb1 ?_
 cases h
 exact Jw1 _ ⟨K59,(s4.1,s4.2),ak,ai,ad,al,R,S60.wk R,f61,f62,R⟩<|KM R
 obtain⟨o50,h,hk64⟩:=BI h;unfold dK at h
 have hc50:decide (v12<p2)=true:=Jn2 (by omega)
 refine Jq<|Je3 R<|Jv2 R hc50<|Js<|Jp<|Jq<|Jv<|Jq<|Js1 (κ:=K59) [0,2,6] none [(0,2),(2,2),(3,2),(4,2),(10,2),(1,0),(5,0),(6,2),(7,0),(8,2),(9,0),(11,2),(12,0),(13,2)] [] (by kernel_rfl) (by kernel_rfl) λw66 S65=>Jd3 R U100 R Z26<|Jn 2 R<|Ob h λx35 hx35 h=>Jc3 R f61.rdc hx35 U26 Z29<|Jn 1 R<|Jg R (Jc2 I26 R R<|hvC ((f4.stp (T10 S7 S11 S15 S19 S23 S26 S39 S48 S60 S65) R R).ld 0 R R) R) ?_
 have f68:=f61.stp S65 R R
 obtain⟨ax35,ux35,f69,hl70⟩:=f68.rdc.gSl hx35
 refine Jg R (Jc2 I29 R R<|hvC hl70 R)<|Ob h λx37 hx37 h=>Jc3 R f69 hx37 U29 Z2<|Jg R (Jc2 I2 R R<|hvC (f69.gInt hx37) R)<|Ob h λx39 hx39 h=>Jc3 R g0_0 hx39 U26 Z29 ?_
 obtain⟨ax39,ux39,f72,hl73⟩:=(g0_0.stp (T11 S3 S7 S11 S15 S19 S23 S26 S39 S48 S60 S65) R R).gSl hx39
 refine Jg R (Jc2 I29 R R<|hvC hl73 R)<|Ob h λx42 hx42 h=>Jc3 R f72 hx42 U29 Z2<|Jg R (Jc2 I2 R R<|hvC (f72.gInt hx42) R)<|Jn 1 R<|Jt1<|Jd<|Jq<|Js1 (κ:=K59) [0,3,6] none [(0,2),(2,2),(3,2),(4,2),(10,2),(1,0),(5,0),(6,2),(7,0),(8,2),(9,0),(11,2),(12,0),(13,2)] [] (by kernel_rfl) (by kernel_rfl) λw75 S74=>Jd3 R U100 R Z26<|Jn 2 R<|Ob h λx48 hx48 h=>Jc3 R f68.rdc hx48 U26 Z29<|Jn 1 R<|Jg R (Jc2 I26 R R<|hvC ((f8.stp (T10 S11 S15 S19 S23 S26 S39 S48 S60 S65 S74) R R).ld 0 R R) R) ?_
 have f77:=f68.stp S74 R R
 obtain⟨ax48,ux48,f78,hl79⟩:=f77.rdc.gSl hx48
 refine Jg R (Jc2 I29 R R<|hvC hl79 R)<|Ob h λx50 hx50 h=>Jc3 R f78 hx50 U29 Z2<|Jg R (Jc2 I2 R R<|hvC (f78.gInt hx50) R)<|Ob h λx52 hx52 h=>Jc3 R g1_0 hx52 U26 Z29 ?_
 obtain⟨ax52,ux52,f81,hl82⟩:=(g1_0.stp (T12 S3 S7 S11 S15 S19 S23 S26 S39 S48 S60 S65 S74) R R).gSl hx52
 refine Jg R (Jc2 I29 R R<|hvC hl82 R)<|Ob h λx55 hx55 h=>Jc3 R f81 hx55 U29 Z2<|Jg R (Jc2 I2 R R<|hvC (f81.gInt hx55) R)<|Jn 1 R<|Jt1<|Jd<|Jg3 [2,2,2,1,2] 3 R<|Ob h λx60 hx60 h=>Jh R R R C54 (qo (κ:=Mk K59) (Ji3 f77.rdc) hx60) ?_
 rintro _ w83 ⟨k84,rfl,e85⟩
 obtain⟨K86,S87,m88⟩:=Ji e85 10 R
 refine Tv<|Jb 1 R<|Jq<|Je3 R<|Ob h λq7 h hK90=>Jx1 (λL w'=>∃κ' ap ao,L=[(2,vi p2),(3,.pointer (some ⟨b3,0,none⟩)),(4,.pointer (some ⟨b4,0,none⟩)),(6,.pointer (some ⟨b6,0,none⟩)),(8,.slice ap q7.1.length ao),(9,.pointer (some ⟨b9,0,none⟩)),(10,vi s1.2.1),(11,.slice ad s4.2.length al),(12,vi v12),(15,vi q7.2)]/\Stp [6,12,13] K86 w83 κ' w'/\Oc (Ep.own E6 2) 29 κ' w' 6 ap ao q7.1) ?_ ?_
 revert h
 cases ht95:decide (x60<0)
 refine JF λh=>Jy R<|Js ?_
 cases h
 exact Jw1 _ ⟨K86,ak,ai,R,Jj3,(f77.stp S87 R R)⟩<|KM R
 refine JT λh=>Jx R<|Jg3 [2,2,2] 1 R<|Jn3 R U26 R R<|Jb 1 R<|Jh3 [2,2,2,1,1,1,2] 3 R<|Jn1 (κ:=K86) (E:=E6) 12 [] (parts:=[(0,.tmp 66),(1,.tmp 67)]) (cells:=[vi x42,vi x55]) (xs:=([x42,x55]:List Int)) R R R R R R Y29 bG R R R R R R R R R R ⟨[vi x42],[vi x55],Zl K86 w83 [],Zl K86 w83 [],R,Zl.sp (l1:=[]) (l2:=[]) R,Zl.sr (l1:=[]) (l2:=[]),R,⟨[vi x55],[],Zl K86 w83 [],Zl K86 w83 [],R,Zl.sp (l1:=[]) (l2:=[]) R,Zl.sr (l1:=[]) (l2:=[]),R,R⟩⟩ λaJ aG w96 K97 S98 f99=>Tv<|Jn1 (κ:=K97) (E:=(Ep.own E6 2)) 13 [12] (parts:=[(0,.tmp 68)]) (cells:=[.slice aJ ([x42,x55]:List Int).length aG]) (xs:=([([x42,x55]:List Int)]:List (List Int))) R R R R R R Y26 bN R R R R R R R R R R ⟨[.slice aJ ([x42,x55]:List Int).length aG],[],Zl K97 w96 [12],Zl K97 w96 [],R,Zl.sp (l1:=[12]) (l2:=[]) R,Zl.sr (l1:=[12]) (l2:=[]),⟨_,_,R,f99⟩,R⟩ λaX aZ w100 K101 S102 f103=>Tv<|Ob h λx70 hx70 h=>Jm1 (κ:=K101) (E:=(Ep.own E6 2)) 6 [13] R R R R R R R R R Y26 bN R R R R (f77.stp (T3 S87 S98 S102) R R) f103.src (dd R) hx70 R λaN aM w105 K106 S107 f108=>Tv<|Jc 1 R ?_
 cases h
 exact Jw1 _ ⟨K106,aN,aM,R,(T3 S98 S102 S107).wk R,f108⟩<|KM R
 rintro _ w91 ⟨K92,ap,ao,rfl,S93,f94⟩
 have h:=hK90
 refine Jp<|Jh3 [2,2,1,1,2] 2 R<|Jn1 (κ:=K92) (E:=E6) 12 [] (parts:=[(0,.tmp 72)]) (cells:=[vi q7.2]) (xs:=([q7.2]:List Int)) R R R R R R Y29 bG R R R R R R R R R R ⟨[vi q7.2],[],Zl K92 w91 [],Zl K92 w91 [],R,Zl.sp (l1:=[]) (l2:=[]) R,Zl.sr (l1:=[]) (l2:=[]),R,R⟩ λba aW w110 K111 S112 f113=>Tv<|Ob h λx74 hx74 h=>Jm1 (κ:=K111) (E:=E6) 9 [] R R R R R R R R R Y29 bG R R R R (f62.stp (T5 S65 S74 S87 S93 S112) R R) (Sl.srcP (bT _) f113.rdc) bK hx74 R λaS aL w115 K116 S117 f118=>Tv<|Jc 1 R<|Jz<|Jp<|Jf3 R ?_
 have hw50:t0 .i64 (v12+1)=v12+1:=wr1 hj50 (Jm2 hc50) hN50
 rw[hw50]
 have hc50:=Jm2 hc50
 cases h
 exact Jz1 λa ha=>⟨k,_,Ja3 _,⟨K116,v12+1,(q7.1,x74),ap,ao,aS,aL,R,(T7 S60 S65 S74 S87 S93 S112 S117).wk R,(f94.stp (S112.tr S117) R R),f118,by omega,by omega,hk64⟩,(ha.mm R)⟩
 rintro _ w53 ⟨K54,s6,ar,an,ac,ah,rfl,S55,f56,f57,rfl⟩
 have h:=yI hK51
 refine Jp<|Jq<|Jg3 [2,2,2] 1 R<|Jn3 R U26 R R<|Jb 1 R ?_
 revert h
 cases ht120:decide (48<(s6.1.length:Int))
 refine JF λh=>Jy R<|Js<|Jp<|Ja [2,1,2,1,1,2,1] R<|Jd3 R U100 R Z26 ?_
 have f126:=f42.stp (S48.tr S55) R R
 refine Jb3 R I26 (f126.ld 0 R R)<|Jn 1 R<|Jn1 (κ:=K54) (E:=(Ep.own E6 2)) 10 [9] (parts:=[(0,.tmp 81)]) (cells:=[.slice ac s6.2.length ah]) (xs:=([s6.2]:List (List Int))) R R R R R R Y26 bN R R R R R R R R R R ⟨[.slice ac s6.2.length ah],[],Zl K54 w53 [9],Zl K54 w53 [],R,Zl.sp (l1:=[9]) (l2:=[]) R,Zl.sr (l1:=[9]) (l2:=[]),⟨_,_,R,f57⟩,R⟩ λaY aT w127 K128 S129 f130=>Tv<|Ob h λx83 hx83 h=>Jm1 (κ:=K128) (E:=(Ep.own E6 2)) 8 [10] R R R R R R R R R Y26 bN R R R R (f41.stp (T3 S48 S55 S129) R R) f130.src (dd R) hx83 R λaw ay w132 K133 S134 f135=>Tv<|Jd3 R U100 R Z26<|Ji1 (κ:=K133) 7 (off:=0) (vc:=[.slice aw x83.length ay]) (cs':=[.slice aw x83.length ay,.slice none 0 0]) R R R R R R R Z26 R R (f126.stp (S129.tr S134) R R) R R λw137 S138 f139=>Tv<|Jo<|Jz<|Jp<|Jf3 R ?_
 cases h
 exact Jz1 λa ha=>⟨k,_,Ja3 _,⟨K133,(s6.1,((IntKind.i64.wrap<|s1.2.1+1):Int),x83),ar,an,aw,ay,R,(T6 S39 S48 S55 S129 S134 S138).wk R,(f56.stp (T3 S129 S134 S138) R R),(f135.stp S138 R R),f139,hk44⟩,(ha.mm R)⟩
 refine JT λh=>Jx R<|Je [2,1,2] R<|Jf R (bJ (parts:=[]) (cells:=[.slice none 0 0,.slice none 0 0]) R R (by kernel_rfl))<|Jj1 (κ:=K54) 4 (vc:=[.slice none 0 0,.slice none 0 0]) R R R R R R R Z100 R R (f12.stp (T7 S15 S19 S23 S26 S39 S48 S55) R R) R λw122 S123 f124=>Tv<|Jb 1 R<|Ju<|Jw<|Ja1<|Jw<|Jw ?_
 cases h
 obtain rfl:=Option.some.inj hk44
 have h:=yL hK29
 refine Ja1<|Jq2<|Jw<|Ja2 (l:=[.cell 6 100,.tmp 7]) V164 (bL R f124 I100 Z100 R<|Jp2 R R) R ?_
 cases h
 exact⟨K54,none,0,none,0,R,(hE.stp (T11 S3 S7 S11 S15 S19 S23 S26 S39 S48 S55 S123) R R),Ow.nil,Ow.nil⟩
 rintro _ w31 ⟨K32,s3,av,ax,aa,ab,rfl,S33,f34,f35,f36,rfl⟩
 have h:=yI hK29
 refine Jp<|Jq<|Js1 (κ:=K32) [2,3] none [(0,2),(2,2),(4,2),(6,2),(1,0),(5,0),(3,1),(7,1),(8,1),(9,2),(10,1)] [] (by kernel_rfl) (by kernel_rfl) λw143 S142=>Jd3 R U100 R Z98<|Jn 1 R<|Jd3 R U100 R Z98<|Jn 1 R<|Jg R (Jc2 I98 R R<|hvC ((f4.stp (T8 S7 S11 S15 S19 S23 S26 S33 S142) R R).ld 1 R R) R)<|Jg R (Jc2 I98 R R<|hvC ((f8.stp (T7 S11 S15 S19 S23 S26 S33 S142) R R).ld 1 R R) R)<|Ob h λx88 hx88 h=>?_
 have f147:=f34.stp S142 R R
 refine Jh R R R C209 (mA (κ:=Mk K32) (Ji3<|g0_1.stp (T9 S3 S7 S11 S15 S19 S23 S26 S33 S142) R R) (Ji3 f147.rdc) hx88) ?_
 rintro _ w148 ⟨k149,aU,aV,rfl,e150,f151⟩
 obtain⟨K152,S153,m154⟩:=Ji e150 9 R
 refine⟨(S153.cl R),Ob h λx92 hx92 h=>Jh R R R C209 (mA (κ:=Mk K152) (Ji3<|g1_1.stp (T10 S3 S7 S11 S15 S19 S23 S26 S33 S142 S153) R R) (Ji3 (f147.stp S153 R R).rdc) hx92) ?_⟩
 rintro _ w159 ⟨k160,bb,bc,rfl,e161,f162⟩
 obtain⟨K163,S164,m165⟩:=Ji e161 12 R
 have S001:=(S153.tr S164)
 refine⟨(S001.cl R),Ob h λx93 hx93 h=>Jm1 (κ:=K163) (E:=Pair.ep154) 11 [14] R R R R R R R R R Y98 cv R R R R ((f151.mx Pair.no154 m154 R (R:9+2=11)).stp S164 R R) (f162.mx Pair.no154 m165 R (R:12+2=14)).src (dd R) hx93 R λaf aj w169 K170 S171 f172=>⟨((S001.tr S171).cl R),Jd3 R U100 R Z98<|Ji1 (κ:=K170) 7 (off:=1) (vc:=[.slice af x93.length aj]) (cs':=[.slice aa s3.2.2.length ab,.slice af x93.length aj]) R R R R R R R Z98 R R (f36.stp (T4 S142 S153 S164 S171) R R) R R λw174 S175 f176=>⟨((T3 S001 S171 S175).cl R),Jt1<|Jd<|Je [1,1,2] R<|Jl tv R R R R (Jd2 (cs:=[.slice aa s3.2.2.length ab,.slice af x93.length aj]) I100 Z100 R R R<|haE f176.cells)<|Jj1 (κ:=K170) 4 (vc:=[.slice aa s3.2.2.length ab,.slice af x93.length aj]) R R R R R R R Z100 R R (f12.stp (T10 S15 S19 S23 S26 S33 S142 S153 S164 S171 S175) R R) R λw178 S179 f180=>Tv<|Jb 1 R<|Ju<|Ja2 (l:=[.cell 6 100,.tmp 7]) V164 (bL R f180 I100 Z100 R<|Jp2 R R) R ?_⟩⟩⟩
 cases h
 exact⟨(λb=>ren [(8,2),(11,3)]<|K170 b),aa,ab,af,aj,R,((hE.stp (T14 S3 S7 S11 S15 S19 S23 S26 S33 S142 S153 S164 S171 S175 S179) R R).map (ren [(8,2),(11,3)]) R R),((f35.stp (T6 S142 S153 S164 S171 S175 S179) R R).map (ren [(8,2),(11,3)]) R R),((f172.stp (S175.tr S179) R R).map (ren [(8,2),(11,3)]) R R)⟩
theorem mI {p0:Sig}{p1:Int}{p2:Int}  {r:Int}(h:iv p0 p1 p2=some r):Ret Tryz.prog 55 [.agg #[vi p0.In,vi p0.Out],vi p1,vi p2] w (Pvi κ w r):=by
 unfold iv at h
 refine Jk3 κ F55 R N55 R λhE=>Je [1,2] R<|Jf1 (κ:=κ) 2 R R R R R R R λb3 w1 K2 S3 f4=>Tv<|Jb 1 R<|Jq<|Je [1,1,2,2,2,2,1,1,2,1,2,2,2,2,2,1,1,2,1,2,2] R<|Jl tv R R R R (Jd2 (cs:=[vi p0.In,vi p0.Out]) I25 Z25 R R R<|haE f4.cells)<|Ob h λx8 hx8 h=>Jh R R R C102 (kc (κ:=Mk K2) (p0:=p0) hx8) ?_
 rintro _ w5 ⟨k6,rfl,e7⟩
 obtain⟨K8,S9,m10⟩:=Ji e7 3 R
 refine Tv<|Jn 2 R<|Ob h λp18 h hK12=>Ju1 [(4,2),(5,2),(6,1),(7,1),(8,2),(9,1),(10,2),(11,2)] [(12,2),(13,2),(14,2),(15,1),(16,1),(17,2),(18,1),(19,2),(20,2)] (λL w'=>L=[(1,vi p1),(2,vi p2),(3,.pointer (some ⟨b3,0,none⟩)),(18,.bool p18)]/\∃κ',Stp [] K8 w5 κ' w') tv ?_ ?_
 revert h
 cases ht13:(!x8)
 refine JF λh=>Jn 1 R<|Jd3 R U25 R Z2<|Jb3 R I2 ((f4.stp S9 R R).ld 0 R R)<|Ob h λx14 hx14 h=>Jh R R R C59 (de (κ:=Mk K8) hx14) ?_
 rintro _ w15 ⟨k16,rfl,e17⟩
 obtain⟨K18,S19,m20⟩:=Ji e17 5 R
 refine Tv<|Jn 1 R<|Ob h λx16 hx16 h=>Jh R R R C57 (cD (κ:=Mk K18) hx16) ?_
 rintro _ w22 ⟨k23,rfl,e24⟩
 obtain⟨K25,S26,m27⟩:=Ji e24 7 R
 refine Tv<|Jn 2 R ?_
 cases h
 exact Jv1 _ tv ⟨R,_,(S19.tr S26).wk R⟩<|KM R
 refine JT λh=>Jn 2 R<|Jd1 R R R R<|Jd1 R R R R<|Jn 1 R<|Jd1 R R R R<|Jn 2 R ?_
 cases h
 exact Jv1 _ tv ⟨R,_,Jj3⟩<|KM R
 rintro _ w29 _ ⟨rfl,K30,S31⟩
 have h:=hK12
 refine Jn 1 R<|Ob h λp27 h hK32=>Ju1 [(13,2),(14,2),(15,1),(16,1),(17,2),(18,1),(19,2),(20,2)] [] (λL w'=>L=[(1,vi p1),(2,vi p2),(3,.pointer (some ⟨b3,0,none⟩)),(27,.bool p27)]/\∃κ',Stp [] K30 w29 κ' w') tv ?_ ?_
 revert h
 cases ht33:p18
 refine JF λh=>Jn 1 R<|Jd3 R U25 R Z2<|Jb3 R I2 ((f4.stp (S9.tr S31) R R).ld 1 R R)<|Ob h λx23 hx23 h=>Jh R R R C59 (de (κ:=Mk K30) hx23) ?_
 rintro _ w35 ⟨k36,rfl,e37⟩
 obtain⟨K38,S39,m40⟩:=Ji e37 5 R
 refine Tv<|Jn 1 R<|Ob h λx25 hx25 h=>Jh R R R C57 (cD (κ:=Mk K38) hx25) ?_
 rintro _ w42 ⟨k43,rfl,e44⟩
 obtain⟨K45,S46,m47⟩:=Ji e44 7 R
 refine Tv<|Jn 2 R ?_
 cases h
 exact Jv1 _ tv ⟨R,_,(S39.tr S46).wk R⟩<|KM R
 refine JT λh=>Jn 2 R<|Jd1 R R R R<|Jd1 R R R R<|Jn 1 R<|Jd1 R R R R<|Jn 2 R ?_
 cases h
 exact Jv1 _ tv ⟨R,_,Jj3⟩<|KM R
 rintro _ w49 _ ⟨rfl,K50,S51⟩
 have h:=hK32
 refine Jd ?_
 revert h
 cases ht52:p27
 refine JF λh=>Jy R<|Js<|Jp<|Jg3 [2,2,1,1,2,2,2,2] 1 R<|Jd3 R U25 R Z2<|Jb3 R I2 ((f4.stp (T3 S9 S31 S51) R R).ld 0 R R)<|Ob h λx31 hx31 h=>Jh R R R C59 (de (κ:=Mk K50) hx31) ?_
 rintro _ w55 ⟨k56,rfl,e57⟩
 obtain⟨K58,S59,m60⟩:=Ji e57 5 R
 refine Tv<|Jb 4 R<|Ju<|Ja2 (l:=[.tmp 6]) V55 (Jp2 R R) R ?_
 cases h
 exact⟨K58,R,(hE.stp (T5 S3 S9 S31 S51 S59) R R)⟩
 refine JT λh=>Jx R<|Je3 R<|Ju<|Jw<|Ja2 (l:=[.tmp 6]) V55 (Jp2 R R) R ?_
 cases h
 exact⟨K50,R,(hE.stp (T4 S3 S9 S31 S51) R R)⟩
theorem lL {az aE ax aB al aw aD ar aA ao}{p0:l7Game}{a1 u1}{p1:(List Bool)}{p2:Int}{a3 u3}{p3:(List Bool)}(g0_0:Rd (Rp.int .i64) κ w 0 az aE p0.owner) (g0_1:Rd (Rp.int .i64) κ w 0 ax aB p0.prio) (g0_2:Rd (Rp.sl (Rp.int .i64)) κ w 0 al aw p0.next) (g0_3:Rd (Rp.sl (Rp.int .i64)) κ w 0 aD ar p0.prev) (g0_4:Rd (Rp.int .i64) κ w 0 aA ao p0.pick) (g1:Rd Rp.bool κ w 0 a1 u1 p1) (g3:Rd Rp.bool κ w 0 a3 u3 p3){r:(List Bool)}(h:gw p0 p1 p2 p3=some r):Ret Tryz.prog 242 [.agg #[.slice az p0.owner.length aE,.slice ax p0.prio.length aB,.slice al p0.next.length aw,.slice aD p0.prev.length ar,.slice aA p0.pick.length ao],.slice a1 p1.length u1,vi p2,.slice a3 p3.length u3] w (Pvs Ep.bool 4 κ w r):=by
 unfold gw at h
 refine Jk3 κ F242 R N242 R λhE=>Je [1,2] R<|Jf1 (κ:=κ) 2 R R R R R R R λb4 w1 K2 S3 f4=>Tv<|Jb 1 R<|Jg3 [2,2,1,2] 1 R<|Jn3 R U193 R R<|Ob h λx19 hx19 h=>Jl1 (κ:=K2) (E:=Ep.bool) (z:=(false:Bool)) 3 R R R R R R R Y193 cX R R R R R (λ_ _ _=>R) (Ju2 hx19) λaa ab w5 K6 S7 f8=>Tv<|Jb 1 R<|Jg3 [2,2,1,2] 1 R<|Jn3 R U193 R R<|Ob h λx22 hx22 h=>Jl1 (κ:=K6) (E:=E6) (z:=(0:Int)) 4 R R R R R R R Y29 bG R R R R R (λ_ _ _=>R) (Ju2 hx22) λad ac w9 K10 S11 f12=>Tv<|Jb 1 R<|Je [1,2] R<|Jo1 (κ:=K10) (E:=E6) 5 R R R R R Y29 bG R λaJ aI w13 K14 S15 f16=>Tv<|Jb 1 R<|Jq<|Je3 R ?_
 have hN17:(p1.length:Int)<=9223372036854775807:=g1.len_le
 refine Ob h λq2 hq19 hK18=>?_
 clear h
 refine Jx1 (λL w'=>∃κ',∃s3:(List Int)×(List Bool)×(List Int),∃am av,L=[(1,.slice a1 p1.length u1),(2,vi p2),(4,.pointer (some ⟨b4,0,none⟩)),(9,.slice aa x19.length ab),(10,.slice ad x22.length ac),(11,.slice am s3.1.length av)]/\Stp [3,4,5] K14 w13 κ' w'/\Oc E6 2 κ' w' 5 am av s3.1/\Oc Ep.bool 4 κ' w' 3 aa ab s3.2.1/\x19.length=s3.2.1.length/\Oc E6 2 κ' w' 4 ad ac s3.2.2/\x22.length=s3.2.2.length/\q2=xe s3) ?_ ?_
 refine Jv<|Jy1 (λk L w'=>∃κ' v12,∃s1:(List Int)×(List Bool)×(List Int),∃ai ah,L=[(1,.slice a1 p1.length u1),(2,vi p2),(3,.slice a3 p3.length u3),(4,.pointer (some ⟨b4,0,none⟩)),(9,.slice aa x19.length ab),(10,.slice ad x22.length ac),(11,.slice ai s1.1.length ah),(12,vi v12)]/\Stp [3,4,5] K14 w13 κ' w'/\Oc E6 2 κ' w' 5 ai ah s1.1/\Oc Ep.bool 4 κ' w' 3 aa ab s1.2.1/\x19.length=s1.2.1.length/\Oc E6 2 κ' w' 4 ad ac s1.2.2/\x22.length=s1.2.2.length/\0<=v12/\Int.toNat ((p1.length:Int)-v12)=k/\cntM (dV p0 p1 p3) k v12 s1=some q2) ⟨_,_,⟨K14,0,((([]:List Int):(List Int)),x19,x22),aJ,aI,R,Jj3,f16,(f8.stp (S11.tr S15) R R),R,(f12.stp S15 R R),R,(by decide),(by simp),hq19⟩,(KM R)⟩ ?_
 rintro k _ w28 ⟨K29,v12,s1,ai,ah,rfl,S30,f31,f32,hn33,f34,hn35,hj17,hJ17,h⟩
 rcases k with _ | k
 have hk38:=h;obtain⟨o17,h⟩:=bP (xe (Sum.inl s1):(List Bool)⊕(((List Int)×(List Bool)×(List Int))⊕((List Int)×(List Bool)×(List Int))))
 have hc17:decide (v12<(p1.length:Int))=false:=Jo2 (by omega)
 refine Jq<|Jg3 [2,2,2,2] 2 R<|Jn3 R U193 R R<|Jb 1 R<|Jw2 R hc17<|Jc1<|Jt<|Jt ?_
 cases h
 have h:=hk38
 refine Jb1 ?_
 cases h
 exact Jw1 _ ⟨K29,(s1.1,s1.2.1,s1.2.2),ai,ah,R,S30.wk R,f31,f32,hn33,f34,hn35,R⟩<|KM R
 obtain⟨o17,h,hk38⟩:=BI h;unfold dV at h
 have hc17:decide (v12<(p1.length:Int))=true:=Jn2 (by omega)
 refine Jq<|Jg3 [2,2,2,2] 2 R<|Jn3 R U193 R R<|Jb 1 R<|Jv2 R hc17<|Js<|Jp<|Jq<|Jv<|Jq<|Jg3 [2,2,2,1] 2 R<|Ob h λx32 hx32 h=>Jc3 R g1 hx32 U193 Z4 ?_
 have f39:=g1.stp (T5 S3 S7 S11 S15 S30) R R
 refine Jb3 R I4 (f39.gBool hx32)<|Jd<|Ob h λq4 h hK40=>Jx1 (λL w'=>∃κ',L=[(1,.slice a1 p1.length u1),(2,vi p2),(3,.slice a3 p3.length u3),(4,.pointer (some ⟨b4,0,none⟩)),(9,.slice aa x19.length ab),(10,.slice ad x22.length ac),(11,.slice ai s1.1.length ah),(12,vi v12)]/\Stp [4] K29 w28 κ' w'/\Oc E6 2 κ' w' 4 ad ac q4/\x22.length=q4.length) ?_ ?_
 revert h
 cases ht46:x32
 refine JF λh=>Jy R<|Js ?_
 cases h
 exact Jw1 _ ⟨K29,R,Jj3,f34,hn35⟩<|KM R
 have S001:=(T5 S3 S7 S11 S15 S30)
 refine JT λh=>Jx R<|Jh3 [2,2,1,2,2,1,2,1] 2 R<|Jl tv R R R R (Jd2 (cs:=[.slice az p0.owner.length aE,.slice ax p0.prio.length aB,.slice al p0.next.length aw,.slice aD p0.prev.length ar,.slice aA p0.pick.length ao]) I191 Z191 R R R<|haE (f4.stp (T4 S7 S11 S15 S30) R R).cells)<|Jn 2 R<|Ob h λx39 hx39 h=>Jh R R R C237 (qk (κ:=Mk K29) (p0:=p0) (Ji3<|g0_0.stp S001 R R) (Ji3<|g0_1.stp S001 R R) (Ji3<|g0_2.stp S001 R R) (Ji3<|g0_3.stp S001 R R) (Ji3<|g0_4.stp S001 R R) (Ji3 f39) hx39) ?_
 rintro _ w53 ⟨k54,rfl,e55⟩
 obtain⟨K56,S57,m58⟩:=Ji e55 6 R
 refine Tv<|Ob h λx40 hx40 h=>Jf R (Jf2 f34.rdc hx40 U29 Z2 R R hn35 R)<|Ob h λy194 hy194 h=>Jk1 (κ:=K56) (E:=E6) 4 [] R R R R R R R R Z2 R R R R (f34.stp S57 R R) hy194 λw61 K62 S63 f64=>Tv<|?_
 have hn65:x22.length=y194.length:=hn35.trans (Jt2 hy194).2.2.2.symm
 refine Jo ?_
 cases h
 exact Jw1 _ ⟨K62,R,(S57.tr S63).wk R,f64,hn65⟩<|KM R
 rintro _ w41 ⟨K42,rfl,S43,f44,hn45⟩
 have h:=hK40
 refine Jp<|Jg3 [2,2,2,1,2,2,2,2,1,2] 2 R<|Ob h λx43 hx43 h=>Jc3 R f39 hx43 U193 Z4<|Jb3 R I4 ((f39.stp S43 R R).gBool hx43)<|Jn 1 R<|Ob h λp50 h hK67=>Ju1 [(5,2),(6,2),(7,2),(8,1),(9,2)] [] (λL w'=>L=[(1,.slice a1 p1.length u1),(2,vi p2),(3,.slice a3 p3.length u3),(4,.pointer (some ⟨b4,0,none⟩)),(9,.slice aa x19.length ab),(10,.slice ad x22.length ac),(11,.slice ai s1.1.length ah),(12,vi v12),(50,.bool p50)]/\∃κ',Stp [] K42 w41 κ' w') tv ?_ ?_
 revert h
 cases ht68:x43
 refine JF λh=>Jn 3 R<|Jd1 R R R R<|Jn 1 R ?_
 cases h
 exact Jv1 _ tv ⟨R,_,Jj3⟩<|KM R
 refine JT λh=>Jn 2 R<|Ob h λx48 hx48 h=>Jc3 R g3 hx48 U193 Z4<|Jb3 R I4 ((g3.stp (T6 S3 S7 S11 S15 S30 S43) R R).gBool hx48)<|Jn 1 R ?_
 cases h
 exact Jv1 _ tv ⟨R,_,Jj3⟩<|KM R
 rintro _ w70 _ ⟨rfl,K71,S72⟩
 have h:=hK67
 refine Jd<|Ob h λq5 h hK73=>Jx1 (λL w'=>∃κ' aC an,L=[(1,.slice a1 p1.length u1),(2,vi p2),(3,.slice a3 p3.length u3),(4,.pointer (some ⟨b4,0,none⟩)),(9,.slice aa x19.length ab),(10,.slice ad x22.length ac),(11,.slice aC q5.1.length an),(12,vi v12)]/\Stp [3,5] K71 w70 κ' w'/\Oc E6 2 κ' w' 5 aC an q5.1/\Oc Ep.bool 4 κ' w' 3 aa ab q5.2/\x19.length=q5.2.length) ?_ ?_
 revert h
 cases ht80:p50
 refine JF λh=>Jy R<|Js ?_
 cases h
 exact Jw1 _ ⟨K71,ai,ah,R,Jj3,(f31.stp (S43.tr S72) R R),(f32.stp (S43.tr S72) R R),hn33⟩<|KM R
 refine JT λh=>Jx R<|Jg3 [2,2,2,1] 2 R<|Ob h λx53 hx53 h=>Jf R (Jf2 f32.rdc hx53 U193 Z4 R R hn33 R)<|Ob h λy195 hy195 h=>Jk1 (κ:=K71) (E:=Ep.bool) 3 [] R R R R R R R R Z4 R R R R (f32.stp (S43.tr S72) R R) hy195 λw82 K83 S84 f85=>Tv<|?_
 have hn86:x19.length=y195.length:=hn33.trans (Jt2 hy195).2.2.2.symm
 refine Jd<|Jh3 [2,2,1,1,2] 2 R<|Jn1 (κ:=K83) (E:=E6) 6 [] (parts:=[(0,.tmp 55)]) (cells:=[vi v12]) (xs:=([v12]:List Int)) R R R R R R Y29 bG R R R R R R R R R R ⟨[vi v12],[],Zl K83 w82 [],Zl K83 w82 [],R,Zl.sp (l1:=[]) (l2:=[]) R,Zl.sr (l1:=[]) (l2:=[]),R,R⟩ λaQ aP w87 K88 S89 f90=>Tv<|Ob h λx57 hx57 h=>Jm1 (κ:=K88) (E:=E6) 5 [] R R R R R R R R R Y29 bG R R R R (f31.stp (T4 S43 S72 S84 S89) R R) (Sl.srcP (bT _) f90.rdc) bK hx57 R λaM aK w92 K93 S94 f95=>Tv<|Jc 1 R ?_
 cases h
 exact Jw1 _ ⟨K93,aM,aK,R,(T3 S84 S89 S94).wk R,f95,(f85.stp (S89.tr S94) R R),hn86⟩<|KM R
 rintro _ w74 ⟨K75,aC,an,rfl,S76,f77,f78,hn79⟩
 have h:=hK73
 refine Jz<|Jp<|Jf3 R ?_
 have hw17:t0 .i64 (v12+1)=v12+1:=wr1 hj17 (Jm2 hc17) hN17
 rw[hw17]
 have hc17:=Jm2 hc17
 cases h
 exact Jz1 λa ha=>⟨k,_,Ja3 _,⟨K75,v12+1,(q5.1,q5.2,q4),aC,an,R,(T4 S30 S43 S72 S76).wk R,f77,f78,hn79,(f44.stp (S72.tr S76) R R),hn45,by omega,by omega,hk38⟩,(ha.mm R)⟩
 rintro _ w20 ⟨K21,s3,am,av,rfl,S22,f23,f24,hn25,f26,hn27,rfl⟩
 have h:=yI hK18
 refine Jp<|Jq<|Je3 R<|Ob h λq7 hq102 hK101=>?_
 clear h
 refine Jx1 (λL w'=>∃κ',∃s8:(List Int)×Int×(List Bool)×(List Int),∃aG aF,L=[(9,.slice aa x19.length ab)]/\Stp [3,4,5] K21 w20 κ' w'/\Oc E6 2 κ' w' 5 aG aF s8.1/\Oc Ep.bool 4 κ' w' 3 aa ab s8.2.2.1/\x19.length=s8.2.2.1.length/\Oc E6 2 κ' w' 4 ad ac s8.2.2.2/\x22.length=s8.2.2.2.length/\q7=xe s8) ?_ ?_
 refine Jv<|Jy1 (λk L w'=>∃κ',∃s6:(List Int)×Int×(List Bool)×(List Int),∃ak aj,L=[(1,.slice a1 p1.length u1),(2,vi p2),(4,.pointer (some ⟨b4,0,none⟩)),(9,.slice aa x19.length ab),(10,.slice ad x22.length ac),(11,.slice ak s6.1.length aj),(13,vi s6.2.1)]/\Stp [3,4,5] K21 w20 κ' w'/\Oc E6 2 κ' w' 5 ak aj s6.1/\Oc Ep.bool 4 κ' w' 3 aa ab s6.2.2.1/\x19.length=s6.2.2.1.length/\Oc E6 2 κ' w' 4 ad ac s6.2.2.2/\x22.length=s6.2.2.2.length/\bZ (fg p0 p1 p2) k s6=some q7) ⟨_,_,⟨K21,(s3.1,(0:Int),s3.2.1,s3.2.2),am,av,R,Jj3,f23,f24,hn25,f26,hn27,hq102⟩,(KM R)⟩ ?_
 rintro k _ w111 ⟨K112,s6,ak,aj,rfl,S113,f114,f115,hn116,f117,hn118,h⟩
 rcases k with _ | k
 cases h
 obtain⟨o100,h,hk119⟩:=BI h;unfold fg at h
 refine Jq<|Jg3 [2,2,2,2] 2 R<|Jn3 R U29 R R<|Jb 1 R ?_
 revert h
 cases ht120:decide (s6.2.1<(s6.1.length:Int))
 refine JF λh=>Jy R<|Jc1<|Jt<|Jt ?_
 cases h
 have h:=hk119
 refine Jb1 ?_
 cases h
 exact Jw1 _ ⟨K112,(s6.1,s6.2.1,s6.2.2.1,s6.2.2.2),ak,aj,R,S113.wk R,f114,f115,hn116,f117,hn118,R⟩<|KM R
 refine JT λh=>Jx R<|Js<|Jp<|Jq<|Jv<|Jg3 [2,2,2,1,2] 2 R<|Ob h λx66 hx66 h=>Jc3 R f114.rdc hx66 U29 Z2<|Jb3 R I2 (f114.rdc.gInt hx66)<|Jb 1 R<|Je3 R<|Ob h λq10 hq123 hK122=>?_
 clear h
 refine Jx1 (λL w'=>∃κ',∃s11:(List Int)×Int×(List Bool)×(List Int),∃au aq,L=[(1,.slice a1 p1.length u1),(2,vi p2),(4,.pointer (some ⟨b4,0,none⟩)),(9,.slice aa x19.length ab),(10,.slice ad x22.length ac),(11,.slice au s11.1.length aq),(13,vi s6.2.1)]/\Stp [3,4,5] K112 w111 κ' w'/\Oc E6 2 κ' w' 5 au aq s11.1/\Oc Ep.bool 4 κ' w' 3 aa ab s11.2.2.1/\x19.length=s11.2.2.1.length/\Oc E6 2 κ' w' 4 ad ac s11.2.2.2/\x22.length=s11.2.2.2.length/\q10=xe s11) ?_ ?_
 refine Jv<|Jy1 (λk L w'=>∃κ',∃s9:(List Int)×Int×(List Bool)×(List Int),∃af ae,L=[(1,.slice a1 p1.length u1),(2,vi p2),(4,.pointer (some ⟨b4,0,none⟩)),(9,.slice aa x19.length ab),(10,.slice ad x22.length ac),(11,.slice af s9.1.length ae),(13,vi s6.2.1),(14,vi x66),(15,vi s9.2.1)]/\Stp [3,4,5] K112 w111 κ' w'/\Oc E6 2 κ' w' 5 af ae s9.1/\Oc Ep.bool 4 κ' w' 3 aa ab s9.2.2.1/\x19.length=s9.2.2.1.length/\Oc E6 2 κ' w' 4 ad ac s9.2.2.2/\x22.length=s9.2.2.2.length/\bZ (dj p0 p1 p2 x66) k s9=some q10) ⟨_,_,⟨K112,(s6.1,(0:Int),s6.2.2.1,s6.2.2.2),ak,aj,R,Jj3,f114,f115,hn116,f117,hn118,hq123⟩,(KM R)⟩ ?_
 rintro k _ w132 ⟨K133,s9,af,ae,rfl,S134,f135,f136,hn137,f138,hn139,h⟩
 rcases k with _ | k
 cases h
 obtain⟨o121,h,hk140⟩:=BI h;unfold dj at h
 refine Jq<|Jg3 [2,2,1,2,2,1,2,2] 1 R<|Jd3 R U191 R Z26 ?_
 have f141:=f4.stp (T6 S7 S11 S15 S22 S113 S134) R R
 refine Jb3 R I26 (f141.ld 3 R R)<|Jn 1 R<|Ob h λx72 hx72 h=>Jc3 R g0_3 hx72 U26 Z29 ?_
 have f142:=g0_3.stp (T7 S3 S7 S11 S15 S22 S113 S134) R R
 obtain⟨ax72,ux72,f143,hl144⟩:=f142.gSl hx72
 refine Jb3 R I29 hl144<|Jn3 R U29 R R<|Jb 1 R ?_
 revert h
 cases ht145:decide (s9.2.1<(x72.length:Int))
 refine JF λh=>Jy R<|Jc1<|Jt<|Jt ?_
 cases h
 have h:=hk140
 refine Jb1 ?_
 cases h
 exact Jw1 _ ⟨K133,(s9.1,s9.2.1,s9.2.2.1,s9.2.2.2),af,ae,R,S134.wk R,f135,f136,hn137,f138,hn139,R⟩<|KM R
 refine JT λh=>Jx R<|Js<|Jp<|Jq<|Jv<|Je [2,1,2,2,1,2,2,1,2] R<|Jd3 R U191 R Z26<|Jb3 R I26 (f141.ld 3 R R)<|Jn 1 R<|Ob h λx81 hx81 h=>Jc3 R f142 hx81 U26 Z29 ?_
 obtain⟨ax81,ux81,f146,hl147⟩:=f142.gSl hx81
 refine Jb3 R I29 hl147<|Jn 1 R<|Ob h λx84 hx84 h=>Jc3 R f146 hx84 U29 Z2<|Jb3 R I2 (f146.gInt hx84)<|Jb 1 R<|Jq<|Jg3 [2,2,2,1,2,2,2,2,2,1,2,2,1,2,2,1,2,2] 2 R<|Ob h λx88 hx88 h=>Jc3 R g1 hx88 U193 Z4<|Jb3 R I4 ((g1.stp (T7 S3 S7 S11 S15 S22 S113 S134) R R).gBool hx88)<|Jn 2 R<|Ob h λp96 h hK149=>Ju1 [(6,2),(7,2),(8,2),(9,1),(10,2)] [(11,2),(12,1),(13,2),(14,2),(15,1),(16,2),(17,2)] (λL w'=>L=[(1,.slice a1 p1.length u1),(2,vi p2),(4,.pointer (some ⟨b4,0,none⟩)),(9,.slice aa x19.length ab),(10,.slice ad x22.length ac),(11,.slice af s9.1.length ae),(13,vi s6.2.1),(14,vi x66),(15,vi s9.2.1),(16,vi x84),(96,.bool p96)]/\∃κ',Stp [] K133 w132 κ' w') tv ?_ ?_
 revert h
 cases ht150:(!x88)
 refine JF λh=>Jn 2 R<|Ob h λx94 hx94 h=>Jf R (Jf2 f136.rdc hx94 U193 Z4 R R hn137 R)<|Jb3 R I4 (f136.rdc.gBool hx94)<|Jn 1 R ?_
 cases h
 exact Jv1 _ tv ⟨R,_,Jj3⟩<|KM R
 refine JT λh=>Jn 3 R<|Jd1 R R R R<|Jn 1 R ?_
 cases h
 exact Jv1 _ tv ⟨R,_,Jj3⟩<|KM R
 rintro _ w151 _ ⟨rfl,K152,S153⟩
 have h:=hK149
 refine Jn 1 R<|Ob h λp103 h hK154=>Ju1 [(12,1),(13,2),(14,2),(15,1),(16,2),(17,2)] [] (λL w'=>L=[(1,.slice a1 p1.length u1),(2,vi p2),(4,.pointer (some ⟨b4,0,none⟩)),(9,.slice aa x19.length ab),(10,.slice ad x22.length ac),(11,.slice af s9.1.length ae),(13,vi s6.2.1),(14,vi x66),(15,vi s9.2.1),(16,vi x84),(103,.bool p103)]/\∃κ',Stp [] K152 w151 κ' w') tv ?_ ?_
 revert h
 cases ht155:p96
 have S002:=(T8 S3 S7 S11 S15 S22 S113 S134 S153)
 refine JF λh=>Jl tv R R R R (Jd2 (cs:=[.slice az p0.owner.length aE,.slice ax p0.prio.length aB,.slice al p0.next.length aw,.slice aD p0.prev.length ar,.slice aA p0.pick.length ao]) I191 Z191 R R R<|haE (f141.stp S153 R R).cells)<|Jn 2 R<|Ob h λx101 hx101 h=>Jh R R R C251 (od (κ:=Mk K152) (p0:=p0) (Ji3<|g0_0.stp S002 R R) (Ji3<|g0_1.stp S002 R R) (Ji3<|g0_2.stp S002 R R) (Ji3<|f142.stp S153 R R) (Ji3<|g0_4.stp S002 R R) hx101) ?_
 rintro _ w162 ⟨k163,rfl,e164⟩
 obtain⟨K165,S166,m167⟩:=Ji e164 6 R
 refine Tv<|Jn 2 R ?_
 cases h
 exact Jv1 _ tv ⟨R,_,S166.wk R⟩<|KM R
 refine JT λh=>Jd1 R R R R<|Jn 2 R<|Jd1 R R R R<|Jn 2 R ?_
 cases h
 exact Jv1 _ tv ⟨R,_,Jj3⟩<|KM R
 rintro _ w169 _ ⟨rfl,K170,S171⟩
 have h:=hK154
 refine Jd ?_
 revert h
 cases ht172:p103
 refine JF λh=>Jy R<|Js<|Jp<|Jg3 [2,2,2,1,2,2,1] 2 R<|Ob h λx106 hx106 h=>Jf R (Jf2 f138.rdc hx106 U29 Z2 R R hn139 R) ?_
 have f176:=f138.stp (S153.tr S171) R R
 refine Jb3 R I2 (f176.rdc.gInt hx106)<|Jn 1 R<|Ob h λx109 hx109 h=>Jf R (Jf2 f176.rdc hx109 U29 Z2 R R hn139 R)<|Ob h λy198 hy198 h=>Jk1 (κ:=K170) (E:=E6) 4 [] R R R R R R R R Z2 R R R R f176 hy198 λw177 K178 S179 f180=>Tv<|?_
 have hn181:x22.length=y198.length:=hn139.trans (Jt2 hy198).2.2.2.symm
 refine Jd<|Je [2,1,2,2,1,2,2,2,2,2,2,1,2,2] R<|Jd3 R U191 R Z29<|Jb3 R I29 ((f141.stp (T3 S153 S171 S179) R R).ld 0 R R)<|Jn 1 R<|Ob h λx113 hx113 h=>Jc3 R g0_0 hx113 U29 Z2<|Jb3 R I2 ((g0_0.stp (T10 S3 S7 S11 S15 S22 S113 S134 S153 S171 S179) R R).gInt hx113)<|Jn 3 R<|Ob h λp123 h hK184=>Ju1 [(8,2),(9,2),(10,2),(11,1),(12,2),(13,2)] [] (λL w'=>L=[(1,.slice a1 p1.length u1),(2,vi p2),(4,.pointer (some ⟨b4,0,none⟩)),(9,.slice aa x19.length ab),(10,.slice ad x22.length ac),(11,.slice af s9.1.length ae),(13,vi s6.2.1),(14,vi x66),(15,vi s9.2.1),(16,vi x84),(123,.bool p123)]/\∃κ',Stp [] K178 w177 κ' w') tv ?_ ?_
 revert h
 cases ht185:(x113==p2)
 refine JF λh=>Jn 2 R<|Ob h λx120 hx120 h=>Jf R (Jf2 f180.rdc hx120 U29 Z2 R R hn181 R)<|Jb3 R I2 (f180.rdc.gInt hx120)<|Jn 2 R ?_
 cases h
 exact Jv1 _ tv ⟨R,_,Jj3⟩<|KM R
 refine JT λh=>Jn 3 R<|Jd1 R R R R<|Jn 2 R ?_
 cases h
 exact Jv1 _ tv ⟨R,_,Jj3⟩<|KM R
 rintro _ w186 _ ⟨rfl,K187,S188⟩
 have h:=hK184
 refine Jd<|Ob h λq12 h hK189=>Jx1 (λL w'=>∃κ' ay ap,L=[(1,.slice a1 p1.length u1),(2,vi p2),(4,.pointer (some ⟨b4,0,none⟩)),(9,.slice aa x19.length ab),(10,.slice ad x22.length ac),(11,.slice ay q12.1.length ap),(13,vi s6.2.1),(14,vi x66),(15,vi s9.2.1)]/\Stp [3,5] K187 w186 κ' w'/\Oc E6 2 κ' w' 5 ay ap q12.1/\Oc Ep.bool 4 κ' w' 3 aa ab q12.2/\x19.length=q12.2.length) ?_ ?_
 revert h
 cases ht196:p123
 refine JF λh=>Jy R<|Js ?_
 cases h
 have S003:=(T4 S153 S171 S179 S188)
 exact Jw1 _ ⟨K187,af,ae,R,Jj3,(f135.stp S003 R R),(f136.stp S003 R R),hn137⟩<|KM R
 refine JT λh=>Jx R<|Jg3 [2,2,2,1] 2 R<|Ob h λx126 hx126 h=>Jf R (Jf2 f136.rdc hx126 U193 Z4 R R hn137 R)<|Ob h λy199 hy199 h=>Jk1 (κ:=K187) (E:=Ep.bool) 3 [] R R R R R R R R Z4 R R R R (f136.stp (T4 S153 S171 S179 S188) R R) hy199 λw198 K199 S200 f201=>Tv<|?_
 have hn202:x19.length=y199.length:=hn137.trans (Jt2 hy199).2.2.2.symm
 refine Jd<|Jh3 [2,2,1,1,2] 2 R<|Jn1 (κ:=K199) (E:=E6) 6 [] (parts:=[(0,.tmp 128)]) (cells:=[vi x84]) (xs:=([x84]:List Int)) R R R R R R Y29 bG R R R R R R R R R R ⟨[vi x84],[],Zl K199 w198 [],Zl K199 w198 [],R,Zl.sp (l1:=[]) (l2:=[]) R,Zl.sr (l1:=[]) (l2:=[]),R,R⟩ λaO aN w203 K204 S205 f206=>Tv<|Ob h λx130 hx130 h=>Jm1 (κ:=K204) (E:=E6) 5 [] R R R R R R R R R Y29 bG R R R R (f135.stp (T6 S153 S171 S179 S188 S200 S205) R R) (Sl.srcP (bT _) f206.rdc) bK hx130 R λaL aH w208 K209 S210 f211=>Tv<|Jc 1 R ?_
 cases h
 exact Jw1 _ ⟨K209,aL,aH,R,(T3 S200 S205 S210).wk R,f211,(f201.stp (S205.tr S210) R R),hn202⟩<|KM R
 rintro _ w190 ⟨K191,ay,ap,rfl,S192,f193,f194,hn195⟩
 have h:=hK189
 refine Jz<|Jp<|Jf3 R ?_
 cases h
 exact Jz1 λa ha=>⟨k,_,Ja3 _,⟨K191,(q12.1,((IntKind.i64.wrap<|s9.2.1+1):Int),q12.2,y198),ay,ap,R,(T6 S134 S153 S171 S179 S188 S192).wk R,f193,f194,hn195,(f180.stp (S188.tr S192) R R),hn181,hk140⟩,(ha.mm R)⟩
 refine JT λh=>Jx R<|Jc1<|Jt<|Jb1<|Jp<|Jf3 R ?_
 cases h
 have S004:=(S153.tr S171)
 exact Jz1 λa ha=>⟨k,_,Ja3 _,⟨K170,(s9.1,((IntKind.i64.wrap<|s9.2.1+1):Int),s9.2.2.1,s9.2.2.2),af,ae,R,(T3 S134 S153 S171).wk R,(f135.stp S004 R R),(f136.stp S004 R R),hn137,(f138.stp S004 R R),hn139,hk140⟩,(ha.mm R)⟩
 rintro _ w124 ⟨K125,s11,au,aq,rfl,S126,f127,f128,hn129,f130,hn131,rfl⟩
 have h:=yI hK122
 refine Jz<|Jp<|Jf3 R ?_
 cases h
 exact Jz1 λa ha=>⟨k,_,Ja3 _,⟨K125,(s11.1,((IntKind.i64.wrap<|s6.2.1+1):Int),s11.2.2.1,s11.2.2.2),au,aq,R,(S113.tr S126).wk R,f127,f128,hn129,f130,hn131,hk119⟩,(ha.mm R)⟩
 rintro _ w103 ⟨K104,s8,aG,aF,rfl,S105,f106,f107,hn108,f109,hn110,rfl⟩
 have h:=yI hK101
 refine Jp<|Je3 R<|Ju<|Ja2 (l:=[.tmp 8]) V242 (Jp2 R R) R ?_
 cases h
 exact⟨(λb=>ren [(3,2)]<|K104 b),aa,ab,(by simp only[hn108]),((hE.stp (T6 S3 S7 S11 S15 S22 S105) R R).map (ren [(3,2)]) R R),(f107.map (ren [(3,2)]) R R)⟩
theorem oC {a0 u0}{p0:(List Pair)}{a1 u1}{p1:(List Int)}{p2:Int}(g0:Rd Pair.rp κ w 0 a0 u0 p0) (g1:Rd (Rp.int .i64) κ w 0 a1 u1 p1){r:Int}(h:gT p0 p1 p2=some r):Ret Tryz.prog 140 [.slice a0 p0.length u0,.slice a1 p1.length u1,vi p2] w (Pvi κ w r):=by
 unfold gT at h
 refine Jk3 κ F140 R N140 R λhE=>Je3 R<|Je3 R<|Jq<|Jg3 [2,2,2] 1 R<|Jn3 R U29 R R<|Jb 1 R ?_
 have hN1:(p1.length:Int)<=9223372036854775807:=g1.len_le
 refine Ob h λq2 hq3 hK2=>?_
 clear h
 refine Jx1 (λL w'=>∃κ',∃s3:Int×Int,L=[(7,vi s3.1),(8,vi s3.2)]/\Stp [] κ w κ' w'/\q2=xe s3) ?_ ?_
 refine Jv<|Jy1 (λk L w'=>∃κ' v13,∃s1:Int×Int,L=[(0,.slice a0 p0.length u0),(2,vi p2),(7,vi s1.1),(8,vi s1.2),(11,.slice a1 p1.length u1),(12,vi (p1.length:Int)),(13,vi v13)]/\Stp [] κ w κ' w'/\0<=v13/\Int.toNat ((p1.length:Int)-v13)=k/\cntM (ey p0 p1 p2) k v13 s1=some q2) ⟨_,_,⟨κ,0,(((-1):Int),((-1):Int)),R,Jj3,(by decide),(by simp),hq3⟩,(KM R)⟩ ?_
 rintro k _ w7 ⟨K8,v13,s1,rfl,S9,hj1,hJ1,h⟩
 rcases k with _ | k
 have hk10:=h;obtain⟨o1,h⟩:=bP (xe (Sum.inl s1):Int⊕((Int×Int)⊕(Int×Int)))
 have hc1:decide (v13<(p1.length:Int))=false:=Jo2 (by omega)
 refine Je3 R<|Jq<|Jw2 R hc1<|Jc1<|Jt<|Jt ?_
 cases h
 have h:=hk10
 refine Jb1 ?_
 cases h
 exact Jw1 _ ⟨K8,(s1.1,s1.2),R,S9.wk R,R⟩<|KM R
 obtain⟨o1,h,hk10⟩:=BI h;unfold ey at h
 have hc1:decide (v13<(p1.length:Int))=true:=Jn2 (by omega)
 refine Je3 R<|Jq<|Jv2 R hc1<|Js<|Jp<|Jq<|Jv<|Jg3 [2,2,1,2,2] 1 R<|Ob h λx16 hx16 h=>Jc3 R g1 hx16 U29 Z2<|Jb3 R I2 ((g1.stp S9 R R).gInt hx16)<|Jb 2 R<|Jq<|Jg3 [2,2,2,2,1,2,1] 2 R<|Ob h λx20 hx20 h=>Jc3 R g0 hx20 U98 Z154<|Jd3 R U154 R Z29 ?_
 have f12:=g0.stp S9 R R
 obtain⟨cse13,hre13,hle13⟩:=(f12).gSt hx20
 obtain⟨ae13_0,ue13_0,ae13_1,ue13_1,rfl,fe13_0,fe13_1⟩:=Pair.un hre13
 refine Jb3 R I29 (λw' hw'=>hle13 w' hw' 0 _ R)<|Jn 1 R<|Ob h λx24 hx24 h=>Jh R R R C62 (ch (κ:=Mk K8) (Ji3 fe13_0) hx24) ?_
 rintro _ w14 ⟨k15,rfl,e16⟩
 obtain⟨K17,S18,m19⟩:=Ji e16 2 R
 refine Tv<|Jd<|Ob h λq4 h hK21=>Jx1 (λL w'=>∃κ',L=[(0,.slice a0 p0.length u0),(2,vi p2),(7,vi q4),(8,vi s1.2),(9,vi v13),(10,vi x16),(11,.slice a1 p1.length u1),(12,vi (p1.length:Int)),(13,vi v13)]/\Stp [] K17 w14 κ' w') ?_ ?_
 revert h
 cases ht25:x24
 refine JF λh=>Jy R<|Js ?_
 cases h
 exact Jw1 _ ⟨K17,R,Jj3⟩<|KM R
 refine JT λh=>Jx R<|Jf3 R ?_
 cases h
 exact Jw1 _ ⟨K17,R,Jj3⟩<|KM R
 rintro _ w22 ⟨K23,rfl,S24⟩
 have h:=hK21
 refine Jp<|Jg3 [2,2,2,2,1,2,1] 2 R<|Ob h λx28 hx28 h=>Jc3 R f12 hx28 U98 Z154<|Jd3 R U154 R Z29 ?_
 obtain⟨cse27,hre27,hle27⟩:=((f12.stp (S18.tr S24) R R)).gSt hx28
 obtain⟨ae27_0,ue27_0,ae27_1,ue27_1,rfl,fe27_0,fe27_1⟩:=Pair.un hre27
 refine Jb3 R I29 (λw' hw'=>hle27 w' hw' 1 _ R)<|Jn 1 R<|Ob h λx32 hx32 h=>Jh R R R C62 (ch (κ:=Mk K23) (Ji3 fe27_1) hx32) ?_
 rintro _ w28 ⟨k29,rfl,e30⟩
 obtain⟨K31,S32,m33⟩:=Ji e30 4 R
 refine Tv<|Jd<|Ob h λq5 h hK35=>Jx1 (λL w'=>∃κ',L=[(0,.slice a0 p0.length u0),(2,vi p2),(7,vi q4),(8,vi q5),(11,.slice a1 p1.length u1),(12,vi (p1.length:Int)),(13,vi v13)]/\Stp [] K31 w28 κ' w') ?_ ?_
 revert h
 cases ht39:x32
 refine JF λh=>Jy R<|Js ?_
 cases h
 exact Jw1 _ ⟨K31,R,Jj3⟩<|KM R
 refine JT λh=>Jx R<|Jf3 R ?_
 cases h
 exact Jw1 _ ⟨K31,R,Jj3⟩<|KM R
 rintro _ w36 ⟨K37,rfl,S38⟩
 have h:=hK35
 refine Jz<|Jp<|Jf3 R ?_
 have hw1:t0 .i64 (v13+1)=v13+1:=wr1 hj1 (Jm2 hc1) hN1
 rw[hw1]
 have hc1:=Jm2 hc1
 cases h
 exact Jz1 λa ha=>⟨k,_,Ja3 _,⟨K37,v13+1,(q4,q5),R,(T5 S9 S18 S24 S32 S38).wk R,by omega,by omega,hk10⟩,(ha.mm R)⟩
 rintro _ w4 ⟨K5,s3,rfl,S6,rfl⟩
 have h:=yI hK2
 refine Jp<|Jq<|Jv<|Jg3 [2,2,2,2,2,2,2] 3 R<|Ob h λp41 h hK40=>Ju1 [(3,2),(4,2),(5,2)] [(6,2)] (λL w'=>L=[(7,vi s3.1),(8,vi s3.2),(41,.bool p41)]/\∃κ',Stp [] K5 w4 κ' w') tv ?_ ?_
 revert h
 cases ht41:decide (s3.1<0)
 refine JF λh=>Jn 3 R ?_
 cases h
 exact Jv1 _ tv ⟨R,_,Jj3⟩<|KM R
 refine JT λh=>Jn 3 R ?_
 cases h
 exact Jv1 _ tv ⟨R,_,Jj3⟩<|KM R
 rintro _ w42 _ ⟨rfl,K43,S44⟩
 have h:=hK40
 refine Jb 1 R ?_
 revert h
 cases ht45:p41
 refine JF λh=>Jy R<|Je3 R ?_
 revert h
 cases ht47:decide (s3.2<s3.1)
 refine JF λh=>Jy R<|Js<|Jz<|Jp<|Je3 R<|Ju<|Ja2 (l:=[.tmp 6]) V140 (Jp2 R R) R ?_
 cases h
 exact⟨K43,R,(hE.stp (S6.tr S44) R R)⟩
 refine JT λh=>Jx R<|Je3 R<|Ju<|Ja1<|Jw<|Ja2 (l:=[.tmp 6]) V140 (Jp2 R R) R ?_
 cases h
 exact⟨K43,R,(hE.stp (S6.tr S44) R R)⟩
 refine JT λh=>Jx R<|Je3 R<|Ju<|Ja1<|Jw<|Ja2 (l:=[.tmp 6]) V140 (Jp2 R R) R ?_
 cases h
 exact⟨K43,R,(hE.stp (S6.tr S44) R R)⟩
theorem eq {a0 u0}{p0:(List Int)}{aa ab}{c1_0:(List Place)}{c1_1:Int}{c1_2:Int}{c1_3:Sig}{c1_4:Int}{b1_0 b1_1 b1_2 b1_3 b1_4}(g0:Rd (Rp.int .i64) κ w 0 a0 u0 p0) (g1_0:Rd Place.rp κ w 0 aa ab c1_0) (gb1_0:Bc κ w 0 b1_0 109 [.slice aa c1_0.length ab]) (gb1_1:Bc κ w 0 b1_1 2 [vi c1_1]) (gb1_2:Bc κ w 0 b1_2 2 [vi c1_2]) (gb1_3:Bc κ w 0 b1_3 25 [vi c1_3.In,vi c1_3.Out]) (gb1_4:Bc κ w 0 b1_4 2 [vi c1_4]){r:Int}(h:bX p0 c1_0 c1_1 c1_2 c1_3 c1_4=some r):Ret Tryz.prog 91 [.slice a0 p0.length u0,.func (.func 92) #[] #[.pointer (some ⟨b1_0,0,none⟩),.pointer (some ⟨b1_1,0,none⟩),.pointer (some ⟨b1_2,0,none⟩),.pointer (some ⟨b1_3,0,none⟩),.pointer (some ⟨b1_4,0,none⟩)]] w (Pvi κ w r):=by
 unfold bX at h
 refine Jk3 κ F91 R N91 R λhE=>Je3 R<|Jq<|Jg3 [2,2,2] 1 R<|Jn3 R U29 R R<|Jb 1 R ?_
 have hN1:(p0.length:Int)<=9223372036854775807:=g0.len_le
 refine Ob h λq2 hq3 hK2=>?_
 clear h
 refine Jx1 (λL w'=>∃κ',L=[(1,.func (.func 92) #[] #[.pointer (some ⟨b1_0,0,none⟩),.pointer (some ⟨b1_1,0,none⟩),.pointer (some ⟨b1_2,0,none⟩),.pointer (some ⟨b1_3,0,none⟩),.pointer (some ⟨b1_4,0,none⟩)])]/\Stp [] κ w κ' w'/\q2=xe ()) ?_ ?_
 refine Jv<|Jy1 (λk L w'=>∃κ' v8,L=[(0,.slice a0 p0.length u0),(1,.func (.func 92) #[] #[.pointer (some ⟨b1_0,0,none⟩),.pointer (some ⟨b1_1,0,none⟩),.pointer (some ⟨b1_2,0,none⟩),.pointer (some ⟨b1_3,0,none⟩),.pointer (some ⟨b1_4,0,none⟩)]),(7,vi (p0.length:Int)),(8,vi v8)]/\Stp [] κ w κ' w'/\0<=v8/\Int.toNat ((p0.length:Int)-v8)=k/\cntM (cc p0 c1_0 c1_1 c1_2 c1_3 c1_4) k v8 ()=some q2) ⟨_,_,⟨κ,0,R,Jj3,(by decide),(by simp),hq3⟩,(KM R)⟩ ?_
 rintro k _ w7 ⟨K8,v8,rfl,S9,hj1,hJ1,h⟩
 rcases k with _ | k
 have hk10:=h;obtain⟨o1,h⟩:=bP (xe (Sum.inl ()):Int⊕((Unit)⊕(Unit)))
 have hc1:decide (v8<(p0.length:Int))=false:=Jo2 (by omega)
 refine Je3 R<|Jq<|Jw2 R hc1<|Jc1<|Jt<|Jt ?_
 cases h
 have h:=hk10
 refine Jb1 ?_
 cases h
 exact Jw1 _ ⟨K8,R,S9.wk R,R⟩<|KM R
 obtain⟨o1,h,hk10⟩:=BI h;unfold cc at h
 have hc1:decide (v8<(p0.length:Int))=true:=Jn2 (by omega)
 refine Je3 R<|Jq<|Jv2 R hc1<|Js<|Jp<|Jq<|Jv<|Je3 R<|Jg3 [2,2,2,2,1,1] 3 R<|Ob h λx14 hx14 h=>Jc3 R g0 hx14 U29 Z2<|Jb3 R I2 ((g0.stp S9 R R).gInt hx14)<|Ob h λx16 hx16 h=>WO.callV R R R R R R R R C92 (nV (κ:=Mk K8) (c3:=c1_3) (Ji3<|g1_0.stp S9 R R) ((gb1_0.stp S9 R R).map (mp [] 0) R R) ((gb1_1.stp S9 R R).map (mp [] 0) R R) ((gb1_2.stp S9 R R).map (mp [] 0) R R) ((gb1_3.stp S9 R R).map (mp [] 0) R R) ((gb1_4.stp S9 R R).map (mp [] 0) R R) hx16) ?_
 rintro _ w18 ⟨k19,rfl,e20⟩
 obtain⟨K21,S22,m23⟩:=Ji e20 2 R
 refine Tv<|Jd ?_
 revert h
 cases ht25:x16
 refine JF λh=>Jy R<|Js<|Jz<|Jp<|Jf3 R ?_
 have hw1:t0 .i64 (v8+1)=v8+1:=wr1 hj1 (Jm2 hc1) hN1
 rw[hw1]
 have hc1:=Jm2 hc1
 cases h
 exact Jz1 λa ha=>⟨k,_,Ja3 _,⟨K21,v8+1,R,(S9.tr S22).wk R,by omega,by omega,hk10⟩,(ha.mm R)⟩
 refine JT λh=>Jx R<|Je3 R<|Ju<|Ja1<|Jw<|Jw ?_
 cases h
 obtain rfl:=Option.some.inj hk10
 have h:=yL hK2
 refine Ja1<|Jq2<|Jw<|Ja2 (l:=[.tmp 4]) V91 (Jp2 R R) R ?_
 cases h
 exact⟨K21,R,(hE.stp (S9.tr S22) R R)⟩
 rintro _ w4 ⟨K5,rfl,S6,rfl⟩
 have h:=yI hK2
 refine Jp<|Je3 R<|Ju<|Ja2 (l:=[.tmp 4]) V91 (Jp2 R R) R ?_
 cases h
 exact⟨K5,R,(hE.stp S6 R R)⟩
theorem dD {a0 u0}{p0:(List Int)}{c1_0:Int}{b1_0}(g0:Rd (Rp.int .i64) κ w 0 a0 u0 p0) (gb1_0:Bc κ w 0 b1_0 2 [vi c1_0]){r:Bool}(h:cb p0 c1_0=some r):Ret Tryz.prog 111 [.slice a0 p0.length u0,.func (.func 112) #[] #[.pointer (some ⟨b1_0,0,none⟩)]] w (Pvb κ w r):=by
 unfold cb at h
 refine Jk3 κ F111 R N111 R λhE=>Je3 R<|Jg3 [2,2,1,2,2] 2 R<|Ob h λx7 hx7 h=>Jh R R R C91 (d7 (κ:=Mk κ) (Ji3 g0) (gb1_0.map (mp [] 0) R R) hx7) ?_
 rintro _ w1 ⟨k2,rfl,e3⟩
 obtain⟨K4,S5,m6⟩:=Ji e3 2 R
 refine Tv<|Jb 2 R<|Ju<|Ja2 (l:=[.tmp 4]) V111 (Jp2 R R) R ?_
 cases h
 exact⟨K4,R,(hE.stp S5 R R)⟩
theorem nX {ab ad ac aa}{p0:Machine}{p1:Int}(g0_0:Oc (Ep.own E6 2) 29 κ w 2 ab ad p0.Next) (g0_1:Oc (Ep.own E6 2) 29 κ w 3 ac aa p0.Out){r:Int×(List (List Int))×(List (List Int))}(h:fP p0 p1=some r):Ret Tryz.prog 32 [.agg #[.slice ab p0.Next.length ad,.slice ac p0.Out.length aa],vi p1] w (λv w'=>∃(κ':Col),v=vi r.1/\Ent κ w κ' w'/\Oc (Ep.own E6 2) 29 κ' w' 2 ab ad r.2.1/\p0.Next.length=r.2.1.length/\Oc (Ep.own E6 2) 29 κ' w' 3 ac aa r.2.2/\p0.Out.length=r.2.2.length):=by
 unfold fP at h
 refine Jk3 κ F32 R N32 R λhE=>Je [1,2] R<|Jf1 (κ:=κ) 4 R R R R R R R λb2 w1 K2 S3 f4=>Tv<|Jb 1 R<|Je [2,1,2,1,2] R<|Jd3 R U28 R Z26<|Jb3 R I26 (f4.ld 0 R R)<|Jn 1 R<|Ob h λx8 hx8 h=>Jh R R R C86 (kN (κ:=λb=>mp [(2,2)] 0<|K2 b) ((g0_0.stp S3 R R).map (mp [(2,2)] 0) R R) hx8) ?_
 rintro _ w6 ⟨k7,rfl,e8,f9,hn10⟩
 obtain⟨K11,S12,m13⟩:=Ji e8 5 R
 refine Tv<|Jb 1 R<|Je [2,1,2,1,2] R<|Jd3 R U28 R Z26<|Jb3 R I26 ((f4.stp S12 R R).ld 1 R R)<|Jn 1 R<|Ob h λx12 hx12 h=>Jh R R R C86 (kN (κ:=λb=>mp [(3,2)] 0<|K11 b) ((g0_1.stp (S3.tr S12) R R).map (mp [(3,2)] 0) R R) hx12) ?_
 rintro _ w18 ⟨k19,rfl,e20,f21,hn22⟩
 obtain⟨K23,S24,m25⟩:=Ji e20 8 R
 refine Tv<|Jb 1 R<|Je3 R<|Ju<|Ja2 (l:=[.tmp 4]) V32 (Jp2 R R) R ?_
 cases h
 exact⟨(λb=>ren [(7,2),(10,3)]<|K23 b),R,((hE.stp (T3 S3 S12 S24) R R).map (ren [(7,2),(10,3)]) R R),(((f9.mx (cm (bI _) _) m13 R (R:5+2=7)).stp S24 R R).map (ren [(7,2),(10,3)]) R R),(hn10),((f21.mx (cm (bI _) _) m25 R (R:8+2=10)).map (ren [(7,2),(10,3)]) R R),(hn22)⟩
end Go.Proofs.YtpcjbkgbnoocaaaGreat
