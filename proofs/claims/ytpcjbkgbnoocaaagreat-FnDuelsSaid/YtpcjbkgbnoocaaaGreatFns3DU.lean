/- The walks, part 3. By program. -/
import Derived.Test.YtpcjbkgbnoocaaaGreatFns2DU
set_option linter.unusedVariables false
set_option linter.unusedSimpArgs false
open Go.IntKind renaming wrap → sh
open Sum renaming inr → yk
namespace Go.Proofs.YtpcjbkgbnoocaaaGreat
open Go Go.Wk Go.Proofs
set_option maxRecDepth 100000
set_option maxHeartbeats 1000000
variable {w:World}{κ:Col}
theorem c9 {aa ab}{p0:l1Cur}{p1:Int}{b0}(g0_0:Rd (Rp.int .u8) κ w 0 aa ab p0.b) (gb0:Bc κ w 2 b0 142 [.slice aa p0.b.length ab,vi p0.i,vi p0.h]){r:Bool×Int×Int}(h:dg p0 p1=some r):Ret Tryz.prog 45 [.pointer (some ⟨b0,0,none⟩),vi p1] w (λv w'=>∃(κ':Col),v= .bool r.1/\Ent κ w κ' w'/\Bc κ' w' 2 b0 142 [.slice aa p0.b.length ab,vi r.2.1,vi r.2.2]):=by
 unfold dg at h
 refine Jk3 κ F45 R N45 R λhE=>Je3 R<|Jg3 [2,2,1,2,2] 2 R<|Ob h λx7 hx7 h=>Jh R R R C105 (bS (κ:=λb=>mp [(2,2)] 0 (κ b)) (p0:=p0) (Jl2 g0_0 (mp [(2,2)] 0) R R) (gb0.map (mp [(2,2)] 0) R R) hx7) ?_
 rintro _ w1 ⟨k2,rfl,e3,f4⟩
 obtain⟨K5,S6,m7⟩:=Ji e3 3 R
 refine Tv<|Jb 2 R<|Ju<|Ja2 (l:=[.tmp 4]) V45 (Jp2 R R) R ?_
 cases h
 exact⟨(λb=>ren [(5,2)]<|K5 b),R,((hE.stp S6 R R).map (ren [(5,2)]) R R),((f4.mx m7 R (R:3+2=5)).map (ren [(5,2)]) R R)⟩
theorem gl {aa ab}{p0:l1Cur}{p1:Int}{p2:Int}{b0}(g0_0:Rd (Rp.int .u8) κ w 0 aa ab p0.b) (gb0:Bc κ w 2 b0 142 [.slice aa p0.b.length ab,vi p0.i,vi p0.h]){r:Int×Int×Int}(h:fW p0 p1 p2=some r):Ret Tryz.prog 106 [.pointer (some ⟨b0,0,none⟩),vi p1,vi p2] w (λv w'=>∃(κ':Col),v=vi r.1/\Ent κ w κ' w'/\Bc κ' w' 2 b0 142 [.slice aa p0.b.length ab,vi r.2.1,vi r.2.2]):=by
 unfold fW at h
 refine Jk3 κ F106 R N106 R λhE=>Je3 R<|Jg3 [2,2,2,2,2,2,1,2,2] 6 R<|Ob h λx13 hx13 h=>Jh R R R C105 (bS (κ:=λb=>mp [(2,2)] 0 (κ b)) (p0:=p0) (Jl2 g0_0 (mp [(2,2)] 0) R R) (gb0.map (mp [(2,2)] 0) R R) hx13) ?_
 rintro _ w1 ⟨k2,rfl,e3,f4⟩
 obtain⟨K5,S6,m7⟩:=Ji e3 3 R
 refine Tv<|Jb 2 R<|Ju<|Ja2 (l:=[.tmp 6]) V106 (Jp2 R R) R ?_
 cases h
 exact⟨(λb=>ren [(5,2)]<|K5 b),R,((hE.stp S6 R R).map (ren [(5,2)]) R R),((f4.mx m7 R (R:3+2=5)).map (ren [(5,2)]) R R)⟩
theorem dr {p0:Sig}  {r:Int}(h:cB p0=some r):Ret Tryz.prog 58 [.agg #[vi p0.In,vi p0.Out]] w (Pvi κ w r):=by
 unfold cB at h
 refine Jk3 κ F58 R N58 R λhE=>Je [1,2] R<|Jf1 (κ:=κ) 2 R R R R R R R λb1 w1 K2 S3 f4=>Tv<|Jb 1 R<|Jq<|Je [1,1,2] R<|Jl tv R R R R (Jd2 (cs:=[vi p0.In,vi p0.Out]) I25 Z25 R R R<|haE f4.cells)<|Ob h λx4 hx4 h=>Jh R R R C102 (eZ (κ:=Mk K2) (p0:=p0) hx4) ?_
 rintro _ w5 ⟨k6,rfl,e7⟩
 obtain⟨K8,S9,m10⟩:=Ji e7 3 R
 refine Tv<|Jb 1 R ?_
 revert h
 cases ht12:(!x4)
 refine JF λh=>Jy R<|Js<|Jp<|Je [2,1,2,1,2,1,2] R<|Jd3 R U25 R Z2 ?_
 have f14:=f4.stp S9 R R
 refine Jb3 R I2 (f14.ld 0 R R)<|Jd3 R U25 R Z2<|Jb3 R I2 (f14.ld 1 R R)<|Jn 1 R<|Ob h λx11 hx11 h=>Jh R R R C59 (cv (κ:=Mk K8) hx11) ?_
 rintro _ w15 ⟨k16,rfl,e17⟩
 obtain⟨K18,S19,m20⟩:=Ji e17 5 R
 refine Tv<|Jb 1 R<|Ju<|Ja2 (l:=[.tmp 2]) V58 (Jp2 R R) R ?_
 cases h
 exact⟨K18,R,(hE.stp (T3 S3 S9 S19) R R)⟩
 refine JT λh=>Jx R<|Je3 R<|Ju<|Jw<|Ja2 (l:=[.tmp 2]) V58 (Jp2 R R) R ?_
 cases h
 exact⟨K8,R,(hE.stp (S3.tr S9) R R)⟩
theorem tJ {aa ab}{p0:l1Cur}{b0}(g0_0:Rd (Rp.int .u8) κ w 0 aa ab p0.b) (gb0:Bc κ w 2 b0 142 [.slice aa p0.b.length ab,vi p0.i,vi p0.h]){r:Int×Int×Int}(h:nW p0=some r):Ret Tryz.prog 208 [.pointer (some ⟨b0,0,none⟩)] w (λv w'=>∃(κ':Col),v=vi r.1/\Ent κ w κ' w'/\Bc κ' w' 2 b0 142 [.slice aa p0.b.length ab,vi r.2.1,vi r.2.2]):=by
 unfold nW at h
 refine Jk3 κ F208 R N208 R λhE=>Je3 R<|Je [1,2,1,2,1,2] R ?_
 refine Jn1 (κ:=κ) (E:=E6) 3 [] (parts:=[(0,.const (vi (-1))),(1,.const (vi 0)),(2,.const (vi 1)),(3,.const (vi 2147483648)),(4,.const (vi (-2147483648))),(5,.const (vi 1099511627776)),(6,.const (vi 4611686018427387904)),(7,.const (vi (-4611686018427387904))),(8,.const (vi 9223372036854775807)),(9,.const (vi (-9223372036854775808)))]) (cells:=[vi (-1),vi 0,vi 1,vi 2147483648,vi (-2147483648),vi 1099511627776,vi 4611686018427387904,vi (-4611686018427387904),vi 9223372036854775807,vi (-9223372036854775808)]) (xs:=([(-1),0,1,2147483648,(-2147483648),1099511627776,4611686018427387904,(-4611686018427387904),9223372036854775807,(-9223372036854775808)]:List Int)) R R R R R R Y29 a8 R R R R R R R R R R ⟨[vi (-1)],[vi 0,vi 1,vi 2147483648,vi (-2147483648),vi 1099511627776,vi 4611686018427387904,vi (-4611686018427387904),vi 9223372036854775807,vi (-9223372036854775808)],Zl κ w [],Zl κ w [],R,Zl.sp (l1:=[]) (l2:=[]) R,Zl.sr (l1:=[]) (l2:=[]),R,⟨[vi 0],[vi 1,vi 2147483648,vi (-2147483648),vi 1099511627776,vi 4611686018427387904,vi (-4611686018427387904),vi 9223372036854775807,vi (-9223372036854775808)],Zl κ w [],Zl κ w [],R,Zl.sp (l1:=[]) (l2:=[]) R,Zl.sr (l1:=[]) (l2:=[]),R,⟨[vi 1],[vi 2147483648,vi (-2147483648),vi 1099511627776,vi 4611686018427387904,vi (-4611686018427387904),vi 9223372036854775807,vi (-9223372036854775808)],Zl κ w [],Zl κ w [],R,Zl.sp (l1:=[]) (l2:=[]) R,Zl.sr (l1:=[]) (l2:=[]),R,⟨[vi 2147483648],[vi (-2147483648),vi 1099511627776,vi 4611686018427387904,vi (-4611686018427387904),vi 9223372036854775807,vi (-9223372036854775808)],Zl κ w [],Zl κ w [],R,Zl.sp (l1:=[]) (l2:=[]) R,Zl.sr (l1:=[]) (l2:=[]),R,⟨[vi (-2147483648)],[vi 1099511627776,vi 4611686018427387904,vi (-4611686018427387904),vi 9223372036854775807,vi (-9223372036854775808)],Zl κ w [],Zl κ w [],R,Zl.sp (l1:=[]) (l2:=[]) R,Zl.sr (l1:=[]) (l2:=[]),R,⟨[vi 1099511627776],[vi 4611686018427387904,vi (-4611686018427387904),vi 9223372036854775807,vi (-9223372036854775808)],Zl κ w [],Zl κ w [],R,Zl.sp (l1:=[]) (l2:=[]) R,Zl.sr (l1:=[]) (l2:=[]),R,⟨[vi 4611686018427387904],[vi (-4611686018427387904),vi 9223372036854775807,vi (-9223372036854775808)],Zl κ w [],Zl κ w [],R,Zl.sp (l1:=[]) (l2:=[]) R,Zl.sr (l1:=[]) (l2:=[]),R,⟨[vi (-4611686018427387904)],[vi 9223372036854775807,vi (-9223372036854775808)],Zl κ w [],Zl κ w [],R,Zl.sp (l1:=[]) (l2:=[]) R,Zl.sr (l1:=[]) (l2:=[]),R,⟨[vi 9223372036854775807],[vi (-9223372036854775808)],Zl κ w [],Zl κ w [],R,Zl.sp (l1:=[]) (l2:=[]) R,Zl.sr (l1:=[]) (l2:=[]),R,⟨[vi (-9223372036854775808)],[],Zl κ w [],Zl κ w [],R,Zl.sp (l1:=[]) (l2:=[]) R,Zl.sr (l1:=[]) (l2:=[]),R,R⟩⟩⟩⟩⟩⟩⟩⟩⟩⟩ λa3 u3 w1 K2 S3 f4=>Tv<|?_
 refine Jn 1 R<|Ob h λx5 hx5 h=>Jh R R R C105 (bS (κ:=λb=>mp [(2,2)] 0<|K2 b) (p0:=p0) (Jl2 (g0_0.stp S3 R R) (mp [(2,2)] 0) R R) ((gb0.stp S3 R R).map (mp [(2,2)] 0) R R) hx5) ?_
 rintro _ w7 ⟨k8,rfl,e9,f10⟩
 obtain⟨K11,S12,m13⟩:=Ji e9 4 R
 refine Tv<|Ob h λx6 hx6 h=>Jc3 R f4.rdc hx6 U29 Z2<|Jb3 R I2 ((f4.stp S12 R R).rdc.gInt hx6)<|Jb 1 R<|Ju<|Ja2 (l:=[.tmp 2]) V208 (Jp2 R R) R ?_
 cases h
 exact⟨(λb=>ren [(6,2)]<|K11 b),R,((hE.stp (S3.tr S12) R R).map (ren [(6,2)]) R R),((f10.mx m13 R (R:4+2=6)).map (ren [(6,2)]) R R)⟩
theorem lF {a0 u0}{p0:(List Int)}{p1:Int}(g0:Rd (Rp.int .i64) κ w 0 a0 u0 p0){r:Bool}(h:kh p0 p1=some r):Ret Tryz.prog 169 [.slice a0 p0.length u0,vi p1] w (Pvb κ w r):=by
 unfold kh at h
 refine Jk3 κ F169 R N169 R λhE=>Je3 R<|Jg3 [2,2,2,2,2,2,2,1,2,2] 1 R<|Jn3 R U29 R R<|Jn 3 R<|Ob h λp13 h hK1=>Ju1 [(5,2),(6,2),(7,1),(8,2)] [(9,2)] (λL w'=>L=[(4,.bool false),(13,.bool p13)]/\∃κ',Stp [] κ w κ' w') tv ?_ ?_
 revert h
 cases ht2:decide ((p0.length:Int)<=p1)
 refine JF λh=>Jn 2 R<|Jd1 R R R R<|Jn 1 R ?_
 cases h
 exact Jv1 _ tv ⟨R,_,Jj3⟩<|KM R
 refine JT λh=>Jn 2 R<|Ob h λx12 hx12 h=>Jh R R R C210 (rD (κ:=Mk κ) (Ji3 g0) hx12) ?_
 rintro _ w3 ⟨k4,rfl,e5⟩
 obtain⟨K6,S7,m8⟩:=Ji e5 2 R
 refine Tv<|Jn 1 R ?_
 cases h
 exact Jv1 _ tv ⟨R,_,S7.wk R⟩<|KM R
 rintro _ w10 _ ⟨rfl,K11,S12⟩
 have h:=hK1
 refine Jb 1 R<|Ju<|Ja2 (l:=[.tmp 4]) V169 (Jp2 R R) R ?_
 cases h
 exact⟨K11,R,(hE.stp S12 R R)⟩
theorem qf {aD aB aF aH}{p0:Det}{aA aG aJ aI}{p1:Det}{p2:Int}(g0_0:Rd (Rp.sl (Rp.int .i64)) κ w 0 aD aB p0.Next) (g0_1:Rd Pair.rp κ w 0 aF aH p0.Pairs) (g1_0:Rd (Rp.sl (Rp.int .i64)) κ w 0 aA aG p1.Next) (g1_1:Rd Pair.rp κ w 0 aJ aI p1.Pairs){r:Det×Bool}(h:eq p0 p1 p2=some r):Ret Tryz.prog 164 [.agg #[.slice aD p0.Next.length aB,.slice aF p0.Pairs.length aH],.agg #[.slice aA p1.Next.length aG,.slice aJ p1.Pairs.length aI],vi p2] w (λv w'=>∃(κ':Col) (ra0:Option Addr) (ru0:Nat) (ra1:Option Addr) (ru1:Nat),v= .tuple #[.agg #[.slice ra0 r.1.Next.length ru0,.slice ra1 r.1.Pairs.length ru1],.bool r.2]/\Ent κ w κ' w'/\Oc (Ep.own E6 2) 29 κ' w' 2 ra0 ru0 r.1.Next/\Oc Pair.ep154 154 κ' w' 3 ra1 ru1 r.1.Pairs):=by
 unfold eq at h
 refine Jk3 κ F164 R N164 R λhE=>Je [1,1,1,2] R<|Jf1 (κ:=κ) 2 R R R R R R R λb3 w1 K2 S3 f4=>Tv<|Jf1 (κ:=K2) 3 R R R R R R R λb4 w5 K6 S7 f8=>Tv<|Jg1 (κ:=K6) 4 R R R R R X100 R λb6 w9 K10 S11 f12=>Tv<|Jb 1 R<|Je [1,1,2] R<|Jn1 (κ:=K10) (E:=E6) 5 [] (parts:=[(0,.const (vi 0)),(1,.const (vi 0))]) (cells:=[vi 0,vi 0]) (xs:=([0,0]:List Int)) R R R R R R Y29 a8 R R R R R R R R R R ⟨[vi 0],[vi 0],Zl K10 w9 [],Zl K10 w9 [],R,Zl.sp (l1:=[]) (l2:=[]) R,Zl.sr (l1:=[]) (l2:=[]),R,⟨[vi 0],[],Zl K10 w9 [],Zl K10 w9 [],R,Zl.sp (l1:=[]) (l2:=[]) R,Zl.sr (l1:=[]) (l2:=[]),R,R⟩⟩ λaK aC w13 K14 S15 f16=>Tv<|Jn1 (κ:=K14) (E:=(Ep.own E6 2)) 6 [5] (parts:=[(0,.tmp 16)]) (cells:=[.slice aK ([0,0]:List Int).length aC]) (xs:=([([0,0]:List Int)]:List (List Int))) R R R R R R Y26 bK R R R R R R R R R R ⟨[.slice aK ([0,0]:List Int).length aC],[],Zl K14 w13 [5],Zl K14 w13 [],R,Zl.sp (l1:=[5]) (l2:=[]) R,Zl.sr (l1:=[5]) (l2:=[]),⟨_,_,R,f16⟩,R⟩ λaM aQ w17 K18 S19 f20=>Tv<|Jb 1 R<|Je [2,1,1] R<|Jf R (bG (parts:=[]) (cells:=[.slice none 0 0,.slice none 0 0]) R R (by kernel_rfl))<|Jg1 (κ:=K18) 7 R R R R R X100 R λb9 w21 K22 S23 f24=>Tv<|Jj1 (κ:=K22) 7 (vc:=[.slice none 0 0,.slice none 0 0]) R R R R R R R Z100 R R f24 R λw25 S26 f27=>Tv<|Jd<|Jq<|Je3 R<|Ob h λq2 hq30 hK29=>?_
 clear h
 refine Jx1 (λL w'=>∃κ',∃s3:(List<|List Int)×Int×(List<|List Int),∃aw av ab aa,L=[(3,.pointer (some ⟨b3,0,none⟩)),(4,.pointer (some ⟨b4,0,none⟩)),(6,.pointer (some ⟨b6,0,none⟩)),(8,.slice aw s3.1.length av),(9,.pointer (some ⟨b9,0,none⟩))]/\Stp [6,7,8,9,10,12,13] K22 w25 κ' w'/\Oc (Ep.own E6 2) 29 κ' w' 6 aw av s3.1/\Oc (Ep.own E6 2) 29 κ' w' 8 ab aa s3.2.2/\Bc κ' w' 7 b9 100 [.slice ab s3.2.2.length aa,.slice none 0 0]/\q2=yk s3) ?_ ?_
 refine Jv<|Jy1 (λk L w'=>∃κ',∃s1:(List<|List Int)×Int×(List<|List Int),∃ac aj ar an,L=[(2,vi p2),(3,.pointer (some ⟨b3,0,none⟩)),(4,.pointer (some ⟨b4,0,none⟩)),(6,.pointer (some ⟨b6,0,none⟩)),(8,.slice ac s1.1.length aj),(9,.pointer (some ⟨b9,0,none⟩)),(10,vi s1.2.1)]/\Stp [6,7,8,9,10,12,13] K22 w25 κ' w'/\Oc (Ep.own E6 2) 29 κ' w' 6 ac aj s1.1/\Oc (Ep.own E6 2) 29 κ' w' 8 ar an s1.2.2/\Bc κ' w' 7 b9 100 [.slice ar s1.2.2.length an,.slice none 0 0]/\bI (eS p0 p1 p2) k s1=some q2) ⟨_,_,⟨K22,((([([0,0]:List Int)]:List (List Int)):(List<|List Int)),(0:Int),(([]:List (List Int)):(List<|List Int))),aM,aQ,none,0,R,Jj3,(f20.stp (S23.tr S26) R R),Ow.nil,f27,hq30⟩,(KM R)⟩ ?_
 rintro k _ w37 ⟨K38,s1,ac,aj,ar,an,rfl,S39,f40,f41,f42,h⟩
 rcases k with _ | k
 cases h
 obtain⟨o28,h,hk44⟩:=BI h;unfold eS at h
 refine Jq<|Jg3 [2,2,2,2] 2 R<|Jn3 R U26 R R<|Jb 1 R ?_
 revert h
 cases ht45:decide (s1.2.1<(s1.1.length:Int))
 refine JF λh=>Jy R<|Jc1<|Jt<|Jt ?_
 cases h
 have h:=hk44
 refine Jb1 ?_
 cases h
 exact Jw1 _ ⟨K38,(s1.1,s1.2.1,s1.2.2),ac,aj,ar,an,R,S39.wk R,f40,f41,f42,R⟩<|KM R
 refine JT λh=>Jx R<|Js<|Jp<|Jq<|Jv<|Je [1,2] R<|Jo1 (κ:=K38) (E:=E6) 9 R R R R R Y29 a8 R λaS aP w46 K47 S48 f49=>Tv<|Jb 1 R<|Jq<|Je3 R<|Ob h λ_ hr50 h=>?_
 have hN50:=mu hr50
 refine Ob h λq5 hq52 hK51=>?_
 clear h
 refine Jx1 (λL w'=>∃κ',∃s6:(List<|List Int)×(List Int),∃ap au ai ad,L=[(2,vi p2),(3,.pointer (some ⟨b3,0,none⟩)),(4,.pointer (some ⟨b4,0,none⟩)),(6,.pointer (some ⟨b6,0,none⟩)),(8,.slice ap s6.1.length au),(9,.pointer (some ⟨b9,0,none⟩)),(10,vi s1.2.1),(11,.slice ai s6.2.length ad)]/\Stp [6,9,12,13] K47 w46 κ' w'/\Oc (Ep.own E6 2) 29 κ' w' 6 ap au s6.1/\Oc E6 2 κ' w' 9 ai ad s6.2/\q5=yk s6) ?_ ?_
 refine Jv<|Jy1 (λk L w'=>∃κ' v12,∃s4:(List<|List Int)×(List Int),∃ak ah al am,L=[(2,vi p2),(3,.pointer (some ⟨b3,0,none⟩)),(4,.pointer (some ⟨b4,0,none⟩)),(6,.pointer (some ⟨b6,0,none⟩)),(8,.slice ak s4.1.length ah),(9,.pointer (some ⟨b9,0,none⟩)),(10,vi s1.2.1),(11,.slice al s4.2.length am),(12,vi v12)]/\Stp [6,9,12,13] K47 w46 κ' w'/\Oc (Ep.own E6 2) 29 κ' w' 6 ak ah s4.1/\Oc E6 2 κ' w' 9 al am s4.2/\0<=v12/\Int.toNat (p2-v12)=k/\cntM (d9 p0 p1 s1) k v12 s4=some q5) ⟨_,_,⟨K47,0,(s1.1,(([]:List Int):(List Int))),ac,aj,aS,aP,R,Jj3,(f40.stp S48 R R),f49,(by decide),(by simp),hq52⟩,(KM R)⟩ ?_
 rintro k _ w58 ⟨K59,v12,s4,ak,ah,al,am,rfl,S60,f61,f62,hj50,hJ50,h⟩
 rcases k with _ | k
 have hk64:=h;obtain⟨o50,h⟩:=ca (yk (Sum.inl s4):(Det×Bool)⊕(((List (List Int))×(List Int))⊕((List (List Int))×(List Int))))
 have hc50:decide (v12<p2)=false:=Jo2 (by omega)
 refine Jq<|Je3 R<|Jw2 R hc50<|Jc1<|Jt<|Jt ?_
 cases h
 have h:=hk64
 refine Jb1 ?_
 cases h
 exact Jw1 _ ⟨K59,(s4.1,s4.2),ak,ah,al,am,R,S60.wk R,f61,f62,R⟩<|KM R
 obtain⟨o50,h,hk64⟩:=BI h;unfold d9 at h
 have hc50:decide (v12<p2)=true:=Jn2 (by omega)
 refine Jq<|Je3 R<|Jv2 R hc50<|Js<|Jp<|Jq<|Jv<|Jq<|Js1 (κ:=K59) [0,2,6] none [(0,2),(2,2),(3,2),(4,2),(10,2),(1,0),(5,0),(6,2),(7,0),(8,2),(9,0),(11,2),(12,0),(13,2)] [] (by kernel_rfl) (by kernel_rfl) λw66 S65=>Jd3 R U100 R Z26<|Jn 2 R<|Ob h λx35 hx35 h=>Jc3 R f61.rdc hx35 U26 Z29<|Jn 1 R<|Jg R (Jc2 I26 R R<|hvC ((f4.stp (T10 S7 S11 S15 S19 S23 S26 S39 S48 S60 S65) R R).ld 0 R R) R) ?_
 have f68:=f61.stp S65 R R
 obtain⟨ax35,ux35,f69,hl70⟩:=f68.rdc.gSl hx35
 refine Jg R (Jc2 I29 R R<|hvC hl70 R)<|Ob h λx37 hx37 h=>Jc3 R f69 hx37 U29 Z2<|Jg R (Jc2 I2 R R<|hvC (f69.gInt hx37) R)<|Ob h λx39 hx39 h=>Jc3 R g0_0 hx39 U26 Z29 ?_
 obtain⟨ax39,ux39,f72,hl73⟩:=(g0_0.stp (T11 S3 S7 S11 S15 S19 S23 S26 S39 S48 S60 S65) R R).gSl hx39
 refine Jg R (Jc2 I29 R R<|hvC hl73 R)<|Ob h λx42 hx42 h=>Jc3 R f72 hx42 U29 Z2<|Jg R (Jc2 I2 R R<|hvC (f72.gInt hx42) R)<|Jn 1 R<|Jt1<|Jd<|Jq<|Js1 (κ:=K59) [0,3,6] none [(0,2),(2,2),(3,2),(4,2),(10,2),(1,0),(5,0),(6,2),(7,0),(8,2),(9,0),(11,2),(12,0),(13,2)] [] (by kernel_rfl) (by kernel_rfl) λw75 S74=>Jd3 R U100 R Z26<|Jn 2 R<|Ob h λx48 hx48 h=>Jc3 R f68.rdc hx48 U26 Z29<|Jn 1 R<|Jg R (Jc2 I26 R R<|hvC ((f8.stp (T10 S11 S15 S19 S23 S26 S39 S48 S60 S65 S74) R R).ld 0 R R) R) ?_
 have f77:=f68.stp S74 R R
 obtain⟨ax48,ux48,f78,hl79⟩:=f77.rdc.gSl hx48
 refine Jg R (Jc2 I29 R R<|hvC hl79 R)<|Ob h λx50 hx50 h=>Jc3 R f78 hx50 U29 Z2<|Jg R (Jc2 I2 R R<|hvC (f78.gInt hx50) R)<|Ob h λx52 hx52 h=>Jc3 R g1_0 hx52 U26 Z29 ?_
 obtain⟨ax52,ux52,f81,hl82⟩:=(g1_0.stp (T12 S3 S7 S11 S15 S19 S23 S26 S39 S48 S60 S65 S74) R R).gSl hx52
 refine Jg R (Jc2 I29 R R<|hvC hl82 R)<|Ob h λx55 hx55 h=>Jc3 R f81 hx55 U29 Z2<|Jg R (Jc2 I2 R R<|hvC (f81.gInt hx55) R)<|Jn 1 R<|Jt1<|Jd<|Jg3 [2,2,2,1,2] 3 R<|Ob h λx60 hx60 h=>Jh R R R C54 (kp (κ:=Mk K59) (Ji3 f77.rdc) hx60) ?_
 rintro _ w83 ⟨k84,rfl,e85⟩
 obtain⟨K86,S87,m88⟩:=Ji e85 10 R
 refine Tv<|Jb 1 R<|Jq<|Je3 R<|Ob h λq7 h hK90=>Jx1 (λL w'=>∃κ' ao aq,L=[(2,vi p2),(3,.pointer (some ⟨b3,0,none⟩)),(4,.pointer (some ⟨b4,0,none⟩)),(6,.pointer (some ⟨b6,0,none⟩)),(8,.slice ao q7.1.length aq),(9,.pointer (some ⟨b9,0,none⟩)),(10,vi s1.2.1),(11,.slice al s4.2.length am),(12,vi v12),(15,vi q7.2)]/\Stp [6,12,13] K86 w83 κ' w'/\Oc (Ep.own E6 2) 29 κ' w' 6 ao aq q7.1) ?_ ?_
 revert h
 cases ht95:decide (x60<0)
 refine JF λh=>Jy R<|Js ?_
 cases h
 exact Jw1 _ ⟨K86,ak,ah,R,Jj3,(f77.stp S87 R R)⟩<|KM R
 refine JT λh=>Jx R<|Jg3 [2,2,2] 1 R<|Jn3 R U26 R R<|Jb 1 R<|Jh3 [2,2,2,1,1,1,2] 3 R<|Jn1 (κ:=K86) (E:=E6) 12 [] (parts:=[(0,.tmp 66),(1,.tmp 67)]) (cells:=[vi x42,vi x55]) (xs:=([x42,x55]:List Int)) R R R R R R Y29 a8 R R R R R R R R R R ⟨[vi x42],[vi x55],Zl K86 w83 [],Zl K86 w83 [],R,Zl.sp (l1:=[]) (l2:=[]) R,Zl.sr (l1:=[]) (l2:=[]),R,⟨[vi x55],[],Zl K86 w83 [],Zl K86 w83 [],R,Zl.sp (l1:=[]) (l2:=[]) R,Zl.sr (l1:=[]) (l2:=[]),R,R⟩⟩ λaE az w96 K97 S98 f99=>Tv<|Jn1 (κ:=K97) (E:=(Ep.own E6 2)) 13 [12] (parts:=[(0,.tmp 68)]) (cells:=[.slice aE ([x42,x55]:List Int).length az]) (xs:=([([x42,x55]:List Int)]:List (List Int))) R R R R R R Y26 bK R R R R R R R R R R ⟨[.slice aE ([x42,x55]:List Int).length az],[],Zl K97 w96 [12],Zl K97 w96 [],R,Zl.sp (l1:=[12]) (l2:=[]) R,Zl.sr (l1:=[12]) (l2:=[]),⟨_,_,R,f99⟩,R⟩ λba aW w100 K101 S102 f103=>Tv<|Ob h λx70 hx70 h=>Jm1 (κ:=K101) (E:=(Ep.own E6 2)) 6 [13] R R R R R R R R R Y26 bK R R R R (f77.stp (T3 S87 S98 S102) R R) f103.src (dz R) hx70 R λaL aR w105 K106 S107 f108=>Tv<|Jc 1 R ?_
 cases h
 exact Jw1 _ ⟨K106,aL,aR,R,(T3 S98 S102 S107).wk R,f108⟩<|KM R
 rintro _ w91 ⟨K92,ao,aq,rfl,S93,f94⟩
 have h:=hK90
 refine Jp<|Jh3 [2,2,1,1,2] 2 R<|Jn1 (κ:=K92) (E:=E6) 12 [] (parts:=[(0,.tmp 72)]) (cells:=[vi q7.2]) (xs:=([q7.2]:List Int)) R R R R R R Y29 a8 R R R R R R R R R R ⟨[vi q7.2],[],Zl K92 w91 [],Zl K92 w91 [],R,Zl.sp (l1:=[]) (l2:=[]) R,Zl.sr (l1:=[]) (l2:=[]),R,R⟩ λbc aX w110 K111 S112 f113=>Tv<|Ob h λx74 hx74 h=>Jm1 (κ:=K111) (E:=E6) 9 [] R R R R R R R R R Y29 a8 R R R R (f62.stp (T5 S65 S74 S87 S93 S112) R R) (Sl.srcP (bM _) f113.rdc) bH hx74 R λaO aN w115 K116 S117 f118=>Tv<|Jc 1 R<|Jz<|Jp<|Jf3 R ?_
 have hw50:sh .i64 (v12+1)=v12+1:=wr1 hj50 (Jm2 hc50) hN50
 rw[hw50]
 have hc50:=Jm2 hc50
 cases h
 exact Jz1 λa ha=>⟨k,_,Ja3 _,⟨K116,v12+1,(q7.1,x74),ao,aq,aO,aN,R,(T7 S60 S65 S74 S87 S93 S112 S117).wk R,(f94.stp (S112.tr S117) R R),f118,by omega,by omega,hk64⟩,(ha.mm R)⟩
 rintro _ w53 ⟨K54,s6,ap,au,ai,ad,rfl,S55,f56,f57,rfl⟩
 have h:=yI hK51
 refine Jp<|Jq<|Jg3 [2,2,2] 1 R<|Jn3 R U26 R R<|Jb 1 R ?_
 revert h
 cases ht120:decide (48<(s6.1.length:Int))
 refine JF λh=>Jy R<|Js<|Jp<|Ja [2,1,2,1,1,2,1] R<|Jd3 R U100 R Z26 ?_
 have f126:=f42.stp (S48.tr S55) R R
 refine Jb3 R I26 (f126.ld 0 R R)<|Jn 1 R<|Jn1 (κ:=K54) (E:=(Ep.own E6 2)) 10 [9] (parts:=[(0,.tmp 81)]) (cells:=[.slice ai s6.2.length ad]) (xs:=([s6.2]:List (List Int))) R R R R R R Y26 bK R R R R R R R R R R ⟨[.slice ai s6.2.length ad],[],Zl K54 w53 [9],Zl K54 w53 [],R,Zl.sp (l1:=[9]) (l2:=[]) R,Zl.sr (l1:=[9]) (l2:=[]),⟨_,_,R,f57⟩,R⟩ λaT aU w127 K128 S129 f130=>Tv<|Ob h λx83 hx83 h=>Jm1 (κ:=K128) (E:=(Ep.own E6 2)) 8 [10] R R R R R R R R R Y26 bK R R R R (f41.stp (T3 S48 S55 S129) R R) f130.src (dz R) hx83 R λax ay w132 K133 S134 f135=>Tv<|Jd3 R U100 R Z26<|Ji1 (κ:=K133) 7 (off:=0) (vc:=[.slice ax x83.length ay]) (cs':=[.slice ax x83.length ay,.slice none 0 0]) R R R R R R R Z26 R R (f126.stp (S129.tr S134) R R) R R λw137 S138 f139=>Tv<|Jo<|Jz<|Jp<|Jf3 R ?_
 cases h
 exact Jz1 λa ha=>⟨k,_,Ja3 _,⟨K133,(s6.1,((IntKind.i64.wrap<|s1.2.1+1):Int),x83),ap,au,ax,ay,R,(T6 S39 S48 S55 S129 S134 S138).wk R,(f56.stp (T3 S129 S134 S138) R R),(f135.stp S138 R R),f139,hk44⟩,(ha.mm R)⟩
 refine JT λh=>Jx R<|Je [2,1,2] R<|Jf R (bG (parts:=[]) (cells:=[.slice none 0 0,.slice none 0 0]) R R (by kernel_rfl))<|Jj1 (κ:=K54) 4 (vc:=[.slice none 0 0,.slice none 0 0]) R R R R R R R Z100 R R (f12.stp (T7 S15 S19 S23 S26 S39 S48 S55) R R) R λw122 S123 f124=>Tv<|Jb 1 R<|Ju<|Jw<|Ja1<|Jw<|Jw ?_
 cases h
 obtain rfl:=Option.some.inj hk44
 have h:=yL hK29
 refine Ja1<|Jq2<|Jw<|Ja2 (l:=[.cell 6 100,.tmp 7]) V164 (bF R f124 I100 Z100 R<|Jp2 R R) R ?_
 cases h
 exact⟨K54,none,0,none,0,R,(hE.stp (T11 S3 S7 S11 S15 S19 S23 S26 S39 S48 S55 S123) R R),Ow.nil,Ow.nil⟩
 rintro _ w31 ⟨K32,s3,aw,av,ab,aa,rfl,S33,f34,f35,f36,rfl⟩
 have h:=yI hK29
 refine Jp<|Jq<|Js1 (κ:=K32) [2,3] none [(0,2),(2,2),(4,2),(6,2),(1,0),(5,0),(3,1),(7,1),(8,1),(9,2),(10,1)] [] (by kernel_rfl) (by kernel_rfl) λw143 S142=>Jd3 R U100 R Z98<|Jn 1 R<|Jd3 R U100 R Z98<|Jn 1 R<|Jg R (Jc2 I98 R R<|hvC ((f4.stp (T8 S7 S11 S15 S19 S23 S26 S33 S142) R R).ld 1 R R) R)<|Jg R (Jc2 I98 R R<|hvC ((f8.stp (T7 S11 S15 S19 S23 S26 S33 S142) R R).ld 1 R R) R)<|Ob h λx88 hx88 h=>?_
 have f147:=f34.stp S142 R R
 refine Jh R R R C209 (nf (κ:=Mk K32) (Ji3<|g0_1.stp (T9 S3 S7 S11 S15 S19 S23 S26 S33 S142) R R) (Ji3 f147.rdc) hx88) ?_
 rintro _ w148 ⟨k149,bb,aZ,rfl,e150,f151⟩
 obtain⟨K152,S153,m154⟩:=Ji e150 9 R
 refine⟨(S153.cl R),Ob h λx92 hx92 h=>Jh R R R C209 (nf (κ:=Mk K152) (Ji3<|g1_1.stp (T10 S3 S7 S11 S15 S19 S23 S26 S33 S142 S153) R R) (Ji3 (f147.stp S153 R R).rdc) hx92) ?_⟩
 rintro _ w159 ⟨k160,aY,aV,rfl,e161,f162⟩
 obtain⟨K163,S164,m165⟩:=Ji e161 12 R
 have S001:=(S153.tr S164)
 refine⟨(S001.cl R),Ob h λx93 hx93 h=>Jm1 (κ:=K163) (E:=Pair.ep154) 11 [14] R R R R R R R R R Y98 dG R R R R ((f151.mx Pair.no154 m154 R (R:9+2=11)).stp S164 R R) (f162.mx Pair.no154 m165 R (R:12+2=14)).src (dz R) hx93 R λaf ae w169 K170 S171 f172=>⟨((S001.tr S171).cl R),Jd3 R U100 R Z98<|Ji1 (κ:=K170) 7 (off:=1) (vc:=[.slice af x93.length ae]) (cs':=[.slice ab s3.2.2.length aa,.slice af x93.length ae]) R R R R R R R Z98 R R (f36.stp (T4 S142 S153 S164 S171) R R) R R λw174 S175 f176=>⟨((T3 S001 S171 S175).cl R),Jt1<|Jd<|Je [1,1,2] R<|Jl tv R R R R (Jd2 (cs:=[.slice ab s3.2.2.length aa,.slice af x93.length ae]) I100 Z100 R R R<|haE f176.cells)<|Jj1 (κ:=K170) 4 (vc:=[.slice ab s3.2.2.length aa,.slice af x93.length ae]) R R R R R R R Z100 R R (f12.stp (T10 S15 S19 S23 S26 S33 S142 S153 S164 S171 S175) R R) R λw178 S179 f180=>Tv<|Jb 1 R<|Ju<|Ja2 (l:=[.cell 6 100,.tmp 7]) V164 (bF R f180 I100 Z100 R<|Jp2 R R) R ?_⟩⟩⟩
 cases h
 exact⟨(λb=>ren [(8,2),(11,3)]<|K170 b),ab,aa,af,ae,R,((hE.stp (T14 S3 S7 S11 S15 S19 S23 S26 S33 S142 S153 S164 S171 S175 S179) R R).map (ren [(8,2),(11,3)]) R R),((f35.stp (T6 S142 S153 S164 S171 S175 S179) R R).map (ren [(8,2),(11,3)]) R R),((f172.stp (S175.tr S179) R R).map (ren [(8,2),(11,3)]) R R)⟩
theorem iN {p0:Sig}{p1:Int}{p2:Int}  {r:Int}(h:dQ p0 p1 p2=some r):Ret Tryz.prog 55 [.agg #[vi p0.In,vi p0.Out],vi p1,vi p2] w (Pvi κ w r):=by
 unfold dQ at h
 refine Jk3 κ F55 R N55 R λhE=>Je [1,2] R<|Jf1 (κ:=κ) 2 R R R R R R R λb3 w1 K2 S3 f4=>Tv<|Jb 1 R<|Jq<|Je [1,1,2,2,2,2,1,1,2,1,2,2,2,2,2,1,1,2,1,2,2] R<|Jl tv R R R R (Jd2 (cs:=[vi p0.In,vi p0.Out]) I25 Z25 R R R<|haE f4.cells)<|Ob h λx8 hx8 h=>Jh R R R C102 (eZ (κ:=Mk K2) (p0:=p0) hx8) ?_
 rintro _ w5 ⟨k6,rfl,e7⟩
 obtain⟨K8,S9,m10⟩:=Ji e7 3 R
 refine Tv<|Jn 2 R<|Ob h λp18 h hK12=>Ju1 [(4,2),(5,2),(6,1),(7,1),(8,2),(9,1),(10,2),(11,2)] [(12,2),(13,2),(14,2),(15,1),(16,1),(17,2),(18,1),(19,2),(20,2)] (λL w'=>L=[(1,vi p1),(2,vi p2),(3,.pointer (some ⟨b3,0,none⟩)),(18,.bool p18)]/\∃κ',Stp [] K8 w5 κ' w') tv ?_ ?_
 revert h
 cases ht13:(!x8)
 refine JF λh=>Jn 1 R<|Jd3 R U25 R Z2<|Jb3 R I2 ((f4.stp S9 R R).ld 0 R R)<|Ob h λx14 hx14 h=>Jh R R R C59 (cv (κ:=Mk K8) hx14) ?_
 rintro _ w15 ⟨k16,rfl,e17⟩
 obtain⟨K18,S19,m20⟩:=Ji e17 5 R
 refine Tv<|Jn 1 R<|Ob h λx16 hx16 h=>Jh R R R C57 (cu (κ:=Mk K18) hx16) ?_
 rintro _ w22 ⟨k23,rfl,e24⟩
 obtain⟨K25,S26,m27⟩:=Ji e24 7 R
 refine Tv<|Jn 2 R ?_
 cases h
 exact Jv1 _ tv ⟨R,_,(S19.tr S26).wk R⟩<|KM R
 refine JT λh=>Jn 2 R<|Jd1 R R R R<|Jd1 R R R R<|Jn 1 R<|Jd1 R R R R<|Jn 2 R ?_
 cases h
 exact Jv1 _ tv ⟨R,_,Jj3⟩<|KM R
 rintro _ w29 _ ⟨rfl,K30,S31⟩
 have h:=hK12
 refine Jn 1 R<|Ob h λp27 h hK32=>Ju1 [(13,2),(14,2),(15,1),(16,1),(17,2),(18,1),(19,2),(20,2)] [] (λL w'=>L=[(1,vi p1),(2,vi p2),(3,.pointer (some ⟨b3,0,none⟩)),(27,.bool p27)]/\∃κ',Stp [] K30 w29 κ' w') tv ?_ ?_
 revert h
 cases ht33:p18
 refine JF λh=>Jn 1 R<|Jd3 R U25 R Z2<|Jb3 R I2 ((f4.stp (S9.tr S31) R R).ld 1 R R)<|Ob h λx23 hx23 h=>Jh R R R C59 (cv (κ:=Mk K30) hx23) ?_
 rintro _ w35 ⟨k36,rfl,e37⟩
 obtain⟨K38,S39,m40⟩:=Ji e37 5 R
 refine Tv<|Jn 1 R<|Ob h λx25 hx25 h=>Jh R R R C57 (cu (κ:=Mk K38) hx25) ?_
 rintro _ w42 ⟨k43,rfl,e44⟩
 obtain⟨K45,S46,m47⟩:=Ji e44 7 R
 refine Tv<|Jn 2 R ?_
 cases h
 exact Jv1 _ tv ⟨R,_,(S39.tr S46).wk R⟩<|KM R
 refine JT λh=>Jn 2 R<|Jd1 R R R R<|Jd1 R R R R<|Jn 1 R<|Jd1 R R R R<|Jn 2 R ?_
 cases h
 exact Jv1 _ tv ⟨R,_,Jj3⟩<|KM R
 rintro _ w49 _ ⟨rfl,K50,S51⟩
 have h:=hK32
 refine Jd ?_
 revert h
 cases ht52:p27
 refine JF λh=>Jy R<|Js<|Jp<|Jg3 [2,2,1,1,2,2,2,2] 1 R<|Jd3 R U25 R Z2<|Jb3 R I2 ((f4.stp (T3 S9 S31 S51) R R).ld 0 R R)<|Ob h λx31 hx31 h=>Jh R R R C59 (cv (κ:=Mk K50) hx31) ?_
 rintro _ w55 ⟨k56,rfl,e57⟩
 obtain⟨K58,S59,m60⟩:=Ji e57 5 R
 refine Tv<|Jb 4 R<|Ju<|Ja2 (l:=[.tmp 6]) V55 (Jp2 R R) R ?_
 cases h
 exact⟨K58,R,(hE.stp (T5 S3 S9 S31 S51 S59) R R)⟩
 refine JT λh=>Jx R<|Je3 R<|Ju<|Jw<|Ja2 (l:=[.tmp 6]) V55 (Jp2 R R) R ?_
 cases h
 exact⟨K50,R,(hE.stp (T4 S3 S9 S31 S51) R R)⟩
theorem mB {av ar aw aB az ax aA ap an aE}{p0:l7Game}{a1 u1}{p1:(List Bool)}{p2:Int}{a3 u3}{p3:(List Bool)}(g0_0:Rd (Rp.int .i64) κ w 0 av ar p0.owner) (g0_1:Rd (Rp.int .i64) κ w 0 aw aB p0.prio) (g0_2:Rd (Rp.sl (Rp.int .i64)) κ w 0 az ax p0.next) (g0_3:Rd (Rp.sl (Rp.int .i64)) κ w 0 aA ap p0.prev) (g0_4:Rd (Rp.int .i64) κ w 0 an aE p0.pick) (g1:Rd Rp.bool κ w 0 a1 u1 p1) (g3:Rd Rp.bool κ w 0 a3 u3 p3){r:(List Bool)}(h:gt p0 p1 p2 p3=some r):Ret Tryz.prog 242 [.agg #[.slice av p0.owner.length ar,.slice aw p0.prio.length aB,.slice az p0.next.length ax,.slice aA p0.prev.length ap,.slice an p0.pick.length aE],.slice a1 p1.length u1,vi p2,.slice a3 p3.length u3] w (Pvs Ep.bool 4 κ w r):=by
 unfold gt at h
 refine Jk3 κ F242 R N242 R λhE=>Je [1,2] R<|Jf1 (κ:=κ) 2 R R R R R R R λb4 w1 K2 S3 f4=>Tv<|Jb 1 R<|Jg3 [2,2,1,2] 1 R<|Jn3 R U193 R R<|Ob h λx19 hx19 h=>Jl1 (κ:=K2) (E:=Ep.bool) (z:=(false:Bool)) 3 R R R R R R R Y193 iG R R R R R (λ_ _ _=>R) (Ju2 hx19) λaa ab w5 K6 S7 f8=>Tv<|Jb 1 R<|Jg3 [2,2,1,2] 1 R<|Jn3 R U193 R R<|Ob h λx22 hx22 h=>Jl1 (κ:=K6) (E:=E6) (z:=(0:Int)) 4 R R R R R R R Y29 a8 R R R R R (λ_ _ _=>R) (Ju2 hx22) λac ad w9 K10 S11 f12=>Tv<|Jb 1 R<|Je [1,2] R<|Jo1 (κ:=K10) (E:=E6) 5 R R R R R Y29 a8 R λaK aL w13 K14 S15 f16=>Tv<|Jb 1 R<|Jq<|Je3 R ?_
 have hN17:(p1.length:Int)<=9223372036854775807:=g1.len_le
 refine Ob h λq2 hq19 hK18=>?_
 clear h
 refine Jx1 (λL w'=>∃κ',∃s3:(List Int)×(List Bool)×(List Int),∃aq am,L=[(1,.slice a1 p1.length u1),(2,vi p2),(4,.pointer (some ⟨b4,0,none⟩)),(9,.slice aa x19.length ab),(10,.slice ac x22.length ad),(11,.slice aq s3.1.length am)]/\Stp [3,4,5] K14 w13 κ' w'/\Oc E6 2 κ' w' 5 aq am s3.1/\Oc Ep.bool 4 κ' w' 3 aa ab s3.2.1/\x19.length=s3.2.1.length/\Oc E6 2 κ' w' 4 ac ad s3.2.2/\x22.length=s3.2.2.length/\q2=yk s3) ?_ ?_
 refine Jv<|Jy1 (λk L w'=>∃κ' v12,∃s1:(List Int)×(List Bool)×(List Int),∃ah ai,L=[(1,.slice a1 p1.length u1),(2,vi p2),(3,.slice a3 p3.length u3),(4,.pointer (some ⟨b4,0,none⟩)),(9,.slice aa x19.length ab),(10,.slice ac x22.length ad),(11,.slice ah s1.1.length ai),(12,vi v12)]/\Stp [3,4,5] K14 w13 κ' w'/\Oc E6 2 κ' w' 5 ah ai s1.1/\Oc Ep.bool 4 κ' w' 3 aa ab s1.2.1/\x19.length=s1.2.1.length/\Oc E6 2 κ' w' 4 ac ad s1.2.2/\x22.length=s1.2.2.length/\0<=v12/\Int.toNat ((p1.length:Int)-v12)=k/\cntM (eg p0 p1 p3) k v12 s1=some q2) ⟨_,_,⟨K14,0,((([]:List Int):(List Int)),x19,x22),aK,aL,R,Jj3,f16,(f8.stp (S11.tr S15) R R),R,(f12.stp S15 R R),R,(by decide),(by simp),hq19⟩,(KM R)⟩ ?_
 rintro k _ w28 ⟨K29,v12,s1,ah,ai,rfl,S30,f31,f32,hn33,f34,hn35,hj17,hJ17,h⟩
 rcases k with _ | k
 have hk38:=h;obtain⟨o17,h⟩:=ca (yk (Sum.inl s1):(List Bool)⊕(((List Int)×(List Bool)×(List Int))⊕((List Int)×(List Bool)×(List Int))))
 have hc17:decide (v12<(p1.length:Int))=false:=Jo2 (by omega)
 refine Jq<|Jg3 [2,2,2,2] 2 R<|Jn3 R U193 R R<|Jb 1 R<|Jw2 R hc17<|Jc1<|Jt<|Jt ?_
 cases h
 have h:=hk38
 refine Jb1 ?_
 cases h
 exact Jw1 _ ⟨K29,(s1.1,s1.2.1,s1.2.2),ah,ai,R,S30.wk R,f31,f32,hn33,f34,hn35,R⟩<|KM R
 obtain⟨o17,h,hk38⟩:=BI h;unfold eg at h
 have hc17:decide (v12<(p1.length:Int))=true:=Jn2 (by omega)
 refine Jq<|Jg3 [2,2,2,2] 2 R<|Jn3 R U193 R R<|Jb 1 R<|Jv2 R hc17<|Js<|Jp<|Jq<|Jv<|Jq<|Jg3 [2,2,2,1] 2 R<|Ob h λx32 hx32 h=>Jc3 R g1 hx32 U193 Z4 ?_
 have f39:=g1.stp (T5 S3 S7 S11 S15 S30) R R
 refine Jb3 R I4 (f39.gBool hx32)<|Jd<|Ob h λq4 h hK40=>Jx1 (λL w'=>∃κ',L=[(1,.slice a1 p1.length u1),(2,vi p2),(3,.slice a3 p3.length u3),(4,.pointer (some ⟨b4,0,none⟩)),(9,.slice aa x19.length ab),(10,.slice ac x22.length ad),(11,.slice ah s1.1.length ai),(12,vi v12)]/\Stp [4] K29 w28 κ' w'/\Oc E6 2 κ' w' 4 ac ad q4/\x22.length=q4.length) ?_ ?_
 revert h
 cases ht46:x32
 refine JF λh=>Jy R<|Js ?_
 cases h
 exact Jw1 _ ⟨K29,R,Jj3,f34,hn35⟩<|KM R
 have S001:=(T5 S3 S7 S11 S15 S30)
 refine JT λh=>Jx R<|Jh3 [2,2,1,2,2,1,2,1] 2 R<|Jl tv R R R R (Jd2 (cs:=[.slice av p0.owner.length ar,.slice aw p0.prio.length aB,.slice az p0.next.length ax,.slice aA p0.prev.length ap,.slice an p0.pick.length aE]) I191 Z191 R R R<|haE (f4.stp (T4 S7 S11 S15 S30) R R).cells)<|Jn 2 R<|Ob h λx39 hx39 h=>Jh R R R C237 (qv (κ:=Mk K29) (p0:=p0) (Ji3<|g0_0.stp S001 R R) (Ji3<|g0_1.stp S001 R R) (Ji3<|g0_2.stp S001 R R) (Ji3<|g0_3.stp S001 R R) (Ji3<|g0_4.stp S001 R R) (Ji3 f39) hx39) ?_
 rintro _ w53 ⟨k54,rfl,e55⟩
 obtain⟨K56,S57,m58⟩:=Ji e55 6 R
 refine Tv<|Ob h λx40 hx40 h=>Jf R (Jf2 f34.rdc hx40 U29 Z2 R R hn35 R)<|Ob h λy271 hy271 h=>Jk1 (κ:=K56) (E:=E6) 4 [] R R R R R R R R Z2 R R R R (f34.stp S57 R R) hy271 λw61 K62 S63 f64=>Tv<|?_
 have hn65:x22.length=y271.length:=hn35.trans (Jt2 hy271).2.2.2.symm
 refine Jo ?_
 cases h
 exact Jw1 _ ⟨K62,R,(S57.tr S63).wk R,f64,hn65⟩<|KM R
 rintro _ w41 ⟨K42,rfl,S43,f44,hn45⟩
 have h:=hK40
 refine Jp<|Jg3 [2,2,2,1,2,2,2,2,1,2] 2 R<|Ob h λx43 hx43 h=>Jc3 R f39 hx43 U193 Z4<|Jb3 R I4 ((f39.stp S43 R R).gBool hx43)<|Jn 1 R<|Ob h λp50 h hK67=>Ju1 [(5,2),(6,2),(7,2),(8,1),(9,2)] [] (λL w'=>L=[(1,.slice a1 p1.length u1),(2,vi p2),(3,.slice a3 p3.length u3),(4,.pointer (some ⟨b4,0,none⟩)),(9,.slice aa x19.length ab),(10,.slice ac x22.length ad),(11,.slice ah s1.1.length ai),(12,vi v12),(50,.bool p50)]/\∃κ',Stp [] K42 w41 κ' w') tv ?_ ?_
 revert h
 cases ht68:x43
 refine JF λh=>Jn 3 R<|Jd1 R R R R<|Jn 1 R ?_
 cases h
 exact Jv1 _ tv ⟨R,_,Jj3⟩<|KM R
 refine JT λh=>Jn 2 R<|Ob h λx48 hx48 h=>Jc3 R g3 hx48 U193 Z4<|Jb3 R I4 ((g3.stp (T6 S3 S7 S11 S15 S30 S43) R R).gBool hx48)<|Jn 1 R ?_
 cases h
 exact Jv1 _ tv ⟨R,_,Jj3⟩<|KM R
 rintro _ w70 _ ⟨rfl,K71,S72⟩
 have h:=hK67
 refine Jd<|Ob h λq5 h hK73=>Jx1 (λL w'=>∃κ' al aC,L=[(1,.slice a1 p1.length u1),(2,vi p2),(3,.slice a3 p3.length u3),(4,.pointer (some ⟨b4,0,none⟩)),(9,.slice aa x19.length ab),(10,.slice ac x22.length ad),(11,.slice al q5.1.length aC),(12,vi v12)]/\Stp [3,5] K71 w70 κ' w'/\Oc E6 2 κ' w' 5 al aC q5.1/\Oc Ep.bool 4 κ' w' 3 aa ab q5.2/\x19.length=q5.2.length) ?_ ?_
 revert h
 cases ht80:p50
 refine JF λh=>Jy R<|Js ?_
 cases h
 exact Jw1 _ ⟨K71,ah,ai,R,Jj3,(f31.stp (S43.tr S72) R R),(f32.stp (S43.tr S72) R R),hn33⟩<|KM R
 refine JT λh=>Jx R<|Jg3 [2,2,2,1] 2 R<|Ob h λx53 hx53 h=>Jf R (Jf2 f32.rdc hx53 U193 Z4 R R hn33 R)<|Ob h λy272 hy272 h=>Jk1 (κ:=K71) (E:=Ep.bool) 3 [] R R R R R R R R Z4 R R R R (f32.stp (S43.tr S72) R R) hy272 λw82 K83 S84 f85=>Tv<|?_
 have hn86:x19.length=y272.length:=hn33.trans (Jt2 hy272).2.2.2.symm
 refine Jd<|Jh3 [2,2,1,1,2] 2 R<|Jn1 (κ:=K83) (E:=E6) 6 [] (parts:=[(0,.tmp 55)]) (cells:=[vi v12]) (xs:=([v12]:List Int)) R R R R R R Y29 a8 R R R R R R R R R R ⟨[vi v12],[],Zl K83 w82 [],Zl K83 w82 [],R,Zl.sp (l1:=[]) (l2:=[]) R,Zl.sr (l1:=[]) (l2:=[]),R,R⟩ λaQ aN w87 K88 S89 f90=>Tv<|Ob h λx57 hx57 h=>Jm1 (κ:=K88) (E:=E6) 5 [] R R R R R R R R R Y29 a8 R R R R (f31.stp (T4 S43 S72 S84 S89) R R) (Sl.srcP (bM _) f90.rdc) bH hx57 R λaJ aI w92 K93 S94 f95=>Tv<|Jc 1 R ?_
 cases h
 exact Jw1 _ ⟨K93,aJ,aI,R,(T3 S84 S89 S94).wk R,f95,(f85.stp (S89.tr S94) R R),hn86⟩<|KM R
 rintro _ w74 ⟨K75,al,aC,rfl,S76,f77,f78,hn79⟩
 have h:=hK73
 refine Jz<|Jp<|Jf3 R ?_
 have hw17:sh .i64 (v12+1)=v12+1:=wr1 hj17 (Jm2 hc17) hN17
 rw[hw17]
 have hc17:=Jm2 hc17
 cases h
 exact Jz1 λa ha=>⟨k,_,Ja3 _,⟨K75,v12+1,(q5.1,q5.2,q4),al,aC,R,(T4 S30 S43 S72 S76).wk R,f77,f78,hn79,(f44.stp (S72.tr S76) R R),hn45,by omega,by omega,hk38⟩,(ha.mm R)⟩
 rintro _ w20 ⟨K21,s3,aq,am,rfl,S22,f23,f24,hn25,f26,hn27,rfl⟩
 have h:=yI hK18
 refine Jp<|Jq<|Je3 R<|Ob h λq7 hq102 hK101=>?_
 clear h
 refine Jx1 (λL w'=>∃κ',∃s8:(List Int)×Int×(List Bool)×(List Int),∃aF aG,L=[(9,.slice aa x19.length ab)]/\Stp [3,4,5] K21 w20 κ' w'/\Oc E6 2 κ' w' 5 aF aG s8.1/\Oc Ep.bool 4 κ' w' 3 aa ab s8.2.2.1/\x19.length=s8.2.2.1.length/\Oc E6 2 κ' w' 4 ac ad s8.2.2.2/\x22.length=s8.2.2.2.length/\q7=yk s8) ?_ ?_
 refine Jv<|Jy1 (λk L w'=>∃κ',∃s6:(List Int)×Int×(List Bool)×(List Int),∃aj ak,L=[(1,.slice a1 p1.length u1),(2,vi p2),(4,.pointer (some ⟨b4,0,none⟩)),(9,.slice aa x19.length ab),(10,.slice ac x22.length ad),(11,.slice aj s6.1.length ak),(13,vi s6.2.1)]/\Stp [3,4,5] K21 w20 κ' w'/\Oc E6 2 κ' w' 5 aj ak s6.1/\Oc Ep.bool 4 κ' w' 3 aa ab s6.2.2.1/\x19.length=s6.2.2.1.length/\Oc E6 2 κ' w' 4 ac ad s6.2.2.2/\x22.length=s6.2.2.2.length/\bI (ft p0 p1 p2) k s6=some q7) ⟨_,_,⟨K21,(s3.1,(0:Int),s3.2.1,s3.2.2),aq,am,R,Jj3,f23,f24,hn25,f26,hn27,hq102⟩,(KM R)⟩ ?_
 rintro k _ w111 ⟨K112,s6,aj,ak,rfl,S113,f114,f115,hn116,f117,hn118,h⟩
 rcases k with _ | k
 cases h
 obtain⟨o100,h,hk119⟩:=BI h;unfold ft at h
 refine Jq<|Jg3 [2,2,2,2] 2 R<|Jn3 R U29 R R<|Jb 1 R ?_
 revert h
 cases ht120:decide (s6.2.1<(s6.1.length:Int))
 refine JF λh=>Jy R<|Jc1<|Jt<|Jt ?_
 cases h
 have h:=hk119
 refine Jb1 ?_
 cases h
 exact Jw1 _ ⟨K112,(s6.1,s6.2.1,s6.2.2.1,s6.2.2.2),aj,ak,R,S113.wk R,f114,f115,hn116,f117,hn118,R⟩<|KM R
 refine JT λh=>Jx R<|Js<|Jp<|Jq<|Jv<|Jg3 [2,2,2,1,2] 2 R<|Ob h λx66 hx66 h=>Jc3 R f114.rdc hx66 U29 Z2<|Jb3 R I2 (f114.rdc.gInt hx66)<|Jb 1 R<|Je3 R<|Ob h λq10 hq123 hK122=>?_
 clear h
 refine Jx1 (λL w'=>∃κ',∃s11:(List Int)×Int×(List Bool)×(List Int),∃au ay,L=[(1,.slice a1 p1.length u1),(2,vi p2),(4,.pointer (some ⟨b4,0,none⟩)),(9,.slice aa x19.length ab),(10,.slice ac x22.length ad),(11,.slice au s11.1.length ay),(13,vi s6.2.1)]/\Stp [3,4,5] K112 w111 κ' w'/\Oc E6 2 κ' w' 5 au ay s11.1/\Oc Ep.bool 4 κ' w' 3 aa ab s11.2.2.1/\x19.length=s11.2.2.1.length/\Oc E6 2 κ' w' 4 ac ad s11.2.2.2/\x22.length=s11.2.2.2.length/\q10=yk s11) ?_ ?_
 refine Jv<|Jy1 (λk L w'=>∃κ',∃s9:(List Int)×Int×(List Bool)×(List Int),∃ae af,L=[(1,.slice a1 p1.length u1),(2,vi p2),(4,.pointer (some ⟨b4,0,none⟩)),(9,.slice aa x19.length ab),(10,.slice ac x22.length ad),(11,.slice ae s9.1.length af),(13,vi s6.2.1),(14,vi x66),(15,vi s9.2.1)]/\Stp [3,4,5] K112 w111 κ' w'/\Oc E6 2 κ' w' 5 ae af s9.1/\Oc Ep.bool 4 κ' w' 3 aa ab s9.2.2.1/\x19.length=s9.2.2.1.length/\Oc E6 2 κ' w' 4 ac ad s9.2.2.2/\x22.length=s9.2.2.2.length/\bI (du p0 p1 p2 x66) k s9=some q10) ⟨_,_,⟨K112,(s6.1,(0:Int),s6.2.2.1,s6.2.2.2),aj,ak,R,Jj3,f114,f115,hn116,f117,hn118,hq123⟩,(KM R)⟩ ?_
 rintro k _ w132 ⟨K133,s9,ae,af,rfl,S134,f135,f136,hn137,f138,hn139,h⟩
 rcases k with _ | k
 cases h
 obtain⟨o121,h,hk140⟩:=BI h;unfold du at h
 refine Jq<|Jg3 [2,2,1,2,2,1,2,2] 1 R<|Jd3 R U191 R Z26 ?_
 have f141:=f4.stp (T6 S7 S11 S15 S22 S113 S134) R R
 refine Jb3 R I26 (f141.ld 3 R R)<|Jn 1 R<|Ob h λx72 hx72 h=>Jc3 R g0_3 hx72 U26 Z29 ?_
 have f142:=g0_3.stp (T7 S3 S7 S11 S15 S22 S113 S134) R R
 obtain⟨ax72,ux72,f143,hl144⟩:=f142.gSl hx72
 refine Jb3 R I29 hl144<|Jn3 R U29 R R<|Jb 1 R ?_
 revert h
 cases ht145:decide (s9.2.1<(x72.length:Int))
 refine JF λh=>Jy R<|Jc1<|Jt<|Jt ?_
 cases h
 have h:=hk140
 refine Jb1 ?_
 cases h
 exact Jw1 _ ⟨K133,(s9.1,s9.2.1,s9.2.2.1,s9.2.2.2),ae,af,R,S134.wk R,f135,f136,hn137,f138,hn139,R⟩<|KM R
 refine JT λh=>Jx R<|Js<|Jp<|Jq<|Jv<|Je [2,1,2,2,1,2,2,1,2] R<|Jd3 R U191 R Z26<|Jb3 R I26 (f141.ld 3 R R)<|Jn 1 R<|Ob h λx81 hx81 h=>Jc3 R f142 hx81 U26 Z29 ?_
 obtain⟨ax81,ux81,f146,hl147⟩:=f142.gSl hx81
 refine Jb3 R I29 hl147<|Jn 1 R<|Ob h λx84 hx84 h=>Jc3 R f146 hx84 U29 Z2<|Jb3 R I2 (f146.gInt hx84)<|Jb 1 R<|Jq<|Jg3 [2,2,2,1,2,2,2,2,2,1,2,2,1,2,2,1,2,2] 2 R<|Ob h λx88 hx88 h=>Jc3 R g1 hx88 U193 Z4<|Jb3 R I4 ((g1.stp (T7 S3 S7 S11 S15 S22 S113 S134) R R).gBool hx88)<|Jn 2 R<|Ob h λp96 h hK149=>Ju1 [(6,2),(7,2),(8,2),(9,1),(10,2)] [(11,2),(12,1),(13,2),(14,2),(15,1),(16,2),(17,2)] (λL w'=>L=[(1,.slice a1 p1.length u1),(2,vi p2),(4,.pointer (some ⟨b4,0,none⟩)),(9,.slice aa x19.length ab),(10,.slice ac x22.length ad),(11,.slice ae s9.1.length af),(13,vi s6.2.1),(14,vi x66),(15,vi s9.2.1),(16,vi x84),(96,.bool p96)]/\∃κ',Stp [] K133 w132 κ' w') tv ?_ ?_
 revert h
 cases ht150:(!x88)
 refine JF λh=>Jn 2 R<|Ob h λx94 hx94 h=>Jf R (Jf2 f136.rdc hx94 U193 Z4 R R hn137 R)<|Jb3 R I4 (f136.rdc.gBool hx94)<|Jn 1 R ?_
 cases h
 exact Jv1 _ tv ⟨R,_,Jj3⟩<|KM R
 refine JT λh=>Jn 3 R<|Jd1 R R R R<|Jn 1 R ?_
 cases h
 exact Jv1 _ tv ⟨R,_,Jj3⟩<|KM R
 rintro _ w151 _ ⟨rfl,K152,S153⟩
 have h:=hK149
 refine Jn 1 R<|Ob h λp103 h hK154=>Ju1 [(12,1),(13,2),(14,2),(15,1),(16,2),(17,2)] [] (λL w'=>L=[(1,.slice a1 p1.length u1),(2,vi p2),(4,.pointer (some ⟨b4,0,none⟩)),(9,.slice aa x19.length ab),(10,.slice ac x22.length ad),(11,.slice ae s9.1.length af),(13,vi s6.2.1),(14,vi x66),(15,vi s9.2.1),(16,vi x84),(103,.bool p103)]/\∃κ',Stp [] K152 w151 κ' w') tv ?_ ?_
 revert h
 cases ht155:p96
 have S002:=(T8 S3 S7 S11 S15 S22 S113 S134 S153)
 refine JF λh=>Jl tv R R R R (Jd2 (cs:=[.slice av p0.owner.length ar,.slice aw p0.prio.length aB,.slice az p0.next.length ax,.slice aA p0.prev.length ap,.slice an p0.pick.length aE]) I191 Z191 R R R<|haE (f141.stp S153 R R).cells)<|Jn 2 R<|Ob h λx101 hx101 h=>Jh R R R C251 (oY (κ:=Mk K152) (p0:=p0) (Ji3<|g0_0.stp S002 R R) (Ji3<|g0_1.stp S002 R R) (Ji3<|g0_2.stp S002 R R) (Ji3<|f142.stp S153 R R) (Ji3<|g0_4.stp S002 R R) hx101) ?_
 rintro _ w162 ⟨k163,rfl,e164⟩
 obtain⟨K165,S166,m167⟩:=Ji e164 6 R
 refine Tv<|Jn 2 R ?_
 cases h
 exact Jv1 _ tv ⟨R,_,S166.wk R⟩<|KM R
 refine JT λh=>Jd1 R R R R<|Jn 2 R<|Jd1 R R R R<|Jn 2 R ?_
 cases h
 exact Jv1 _ tv ⟨R,_,Jj3⟩<|KM R
 rintro _ w169 _ ⟨rfl,K170,S171⟩
 have h:=hK154
 refine Jd ?_
 revert h
 cases ht172:p103
 refine JF λh=>Jy R<|Js<|Jp<|Jg3 [2,2,2,1,2,2,1] 2 R<|Ob h λx106 hx106 h=>Jf R (Jf2 f138.rdc hx106 U29 Z2 R R hn139 R) ?_
 have f176:=f138.stp (S153.tr S171) R R
 refine Jb3 R I2 (f176.rdc.gInt hx106)<|Jn 1 R<|Ob h λx109 hx109 h=>Jf R (Jf2 f176.rdc hx109 U29 Z2 R R hn139 R)<|Ob h λy275 hy275 h=>Jk1 (κ:=K170) (E:=E6) 4 [] R R R R R R R R Z2 R R R R f176 hy275 λw177 K178 S179 f180=>Tv<|?_
 have hn181:x22.length=y275.length:=hn139.trans (Jt2 hy275).2.2.2.symm
 refine Jd<|Je [2,1,2,2,1,2,2,2,2,2,2,1,2,2] R<|Jd3 R U191 R Z29<|Jb3 R I29 ((f141.stp (T3 S153 S171 S179) R R).ld 0 R R)<|Jn 1 R<|Ob h λx113 hx113 h=>Jc3 R g0_0 hx113 U29 Z2<|Jb3 R I2 ((g0_0.stp (T10 S3 S7 S11 S15 S22 S113 S134 S153 S171 S179) R R).gInt hx113)<|Jn 3 R<|Ob h λp123 h hK184=>Ju1 [(8,2),(9,2),(10,2),(11,1),(12,2),(13,2)] [] (λL w'=>L=[(1,.slice a1 p1.length u1),(2,vi p2),(4,.pointer (some ⟨b4,0,none⟩)),(9,.slice aa x19.length ab),(10,.slice ac x22.length ad),(11,.slice ae s9.1.length af),(13,vi s6.2.1),(14,vi x66),(15,vi s9.2.1),(16,vi x84),(123,.bool p123)]/\∃κ',Stp [] K178 w177 κ' w') tv ?_ ?_
 revert h
 cases ht185:(x113==p2)
 refine JF λh=>Jn 2 R<|Ob h λx120 hx120 h=>Jf R (Jf2 f180.rdc hx120 U29 Z2 R R hn181 R)<|Jb3 R I2 (f180.rdc.gInt hx120)<|Jn 2 R ?_
 cases h
 exact Jv1 _ tv ⟨R,_,Jj3⟩<|KM R
 refine JT λh=>Jn 3 R<|Jd1 R R R R<|Jn 2 R ?_
 cases h
 exact Jv1 _ tv ⟨R,_,Jj3⟩<|KM R
 rintro _ w186 _ ⟨rfl,K187,S188⟩
 have h:=hK184
 refine Jd<|Ob h λq12 h hK189=>Jx1 (λL w'=>∃κ' aD ao,L=[(1,.slice a1 p1.length u1),(2,vi p2),(4,.pointer (some ⟨b4,0,none⟩)),(9,.slice aa x19.length ab),(10,.slice ac x22.length ad),(11,.slice aD q12.1.length ao),(13,vi s6.2.1),(14,vi x66),(15,vi s9.2.1)]/\Stp [3,5] K187 w186 κ' w'/\Oc E6 2 κ' w' 5 aD ao q12.1/\Oc Ep.bool 4 κ' w' 3 aa ab q12.2/\x19.length=q12.2.length) ?_ ?_
 revert h
 cases ht196:p123
 refine JF λh=>Jy R<|Js ?_
 cases h
 have S003:=(T4 S153 S171 S179 S188)
 exact Jw1 _ ⟨K187,ae,af,R,Jj3,(f135.stp S003 R R),(f136.stp S003 R R),hn137⟩<|KM R
 refine JT λh=>Jx R<|Jg3 [2,2,2,1] 2 R<|Ob h λx126 hx126 h=>Jf R (Jf2 f136.rdc hx126 U193 Z4 R R hn137 R)<|Ob h λy276 hy276 h=>Jk1 (κ:=K187) (E:=Ep.bool) 3 [] R R R R R R R R Z4 R R R R (f136.stp (T4 S153 S171 S179 S188) R R) hy276 λw198 K199 S200 f201=>Tv<|?_
 have hn202:x19.length=y276.length:=hn137.trans (Jt2 hy276).2.2.2.symm
 refine Jd<|Jh3 [2,2,1,1,2] 2 R<|Jn1 (κ:=K199) (E:=E6) 6 [] (parts:=[(0,.tmp 128)]) (cells:=[vi x84]) (xs:=([x84]:List Int)) R R R R R R Y29 a8 R R R R R R R R R R ⟨[vi x84],[],Zl K199 w198 [],Zl K199 w198 [],R,Zl.sp (l1:=[]) (l2:=[]) R,Zl.sr (l1:=[]) (l2:=[]),R,R⟩ λaP aO w203 K204 S205 f206=>Tv<|Ob h λx130 hx130 h=>Jm1 (κ:=K204) (E:=E6) 5 [] R R R R R R R R R Y29 a8 R R R R (f135.stp (T6 S153 S171 S179 S188 S200 S205) R R) (Sl.srcP (bM _) f206.rdc) bH hx130 R λaH aM w208 K209 S210 f211=>Tv<|Jc 1 R ?_
 cases h
 exact Jw1 _ ⟨K209,aH,aM,R,(T3 S200 S205 S210).wk R,f211,(f201.stp (S205.tr S210) R R),hn202⟩<|KM R
 rintro _ w190 ⟨K191,aD,ao,rfl,S192,f193,f194,hn195⟩
 have h:=hK189
 refine Jz<|Jp<|Jf3 R ?_
 cases h
 exact Jz1 λa ha=>⟨k,_,Ja3 _,⟨K191,(q12.1,((IntKind.i64.wrap<|s9.2.1+1):Int),q12.2,y275),aD,ao,R,(T6 S134 S153 S171 S179 S188 S192).wk R,f193,f194,hn195,(f180.stp (S188.tr S192) R R),hn181,hk140⟩,(ha.mm R)⟩
 refine JT λh=>Jx R<|Jc1<|Jt<|Jb1<|Jp<|Jf3 R ?_
 cases h
 have S004:=(S153.tr S171)
 exact Jz1 λa ha=>⟨k,_,Ja3 _,⟨K170,(s9.1,((IntKind.i64.wrap<|s9.2.1+1):Int),s9.2.2.1,s9.2.2.2),ae,af,R,(T3 S134 S153 S171).wk R,(f135.stp S004 R R),(f136.stp S004 R R),hn137,(f138.stp S004 R R),hn139,hk140⟩,(ha.mm R)⟩
 rintro _ w124 ⟨K125,s11,au,ay,rfl,S126,f127,f128,hn129,f130,hn131,rfl⟩
 have h:=yI hK122
 refine Jz<|Jp<|Jf3 R ?_
 cases h
 exact Jz1 λa ha=>⟨k,_,Ja3 _,⟨K125,(s11.1,((IntKind.i64.wrap<|s6.2.1+1):Int),s11.2.2.1,s11.2.2.2),au,ay,R,(S113.tr S126).wk R,f127,f128,hn129,f130,hn131,hk119⟩,(ha.mm R)⟩
 rintro _ w103 ⟨K104,s8,aF,aG,rfl,S105,f106,f107,hn108,f109,hn110,rfl⟩
 have h:=yI hK101
 refine Jp<|Je3 R<|Ju<|Ja2 (l:=[.tmp 8]) V242 (Jp2 R R) R ?_
 cases h
 exact⟨(λb=>ren [(3,2)]<|K104 b),aa,ab,(by simp only[hn108]),((hE.stp (T6 S3 S7 S11 S15 S22 S105) R R).map (ren [(3,2)]) R R),(f107.map (ren [(3,2)]) R R)⟩
theorem dP {a0 u0}{p0:(List Int)}{c1_0:Int}{b1_0}(g0:Rd (Rp.int .i64) κ w 0 a0 u0 p0) (gb1_0:Bc κ w 0 b1_0 2 [vi c1_0]){r:Bool}(h:bP p0 c1_0=some r):Ret Tryz.prog 111 [.slice a0 p0.length u0,.func (.func 112) #[] #[.pointer (some ⟨b1_0,0,none⟩)]] w (Pvb κ w r):=by
 unfold bP at h
 refine Jk3 κ F111 R N111 R λhE=>Je3 R<|Jg3 [2,2,1,2,2] 2 R<|Ob h λx7 hx7 h=>Jh R R R C91 (en (κ:=Mk κ) (Ji3 g0) (gb1_0.map (mp [] 0) R R) hx7) ?_
 rintro _ w1 ⟨k2,rfl,e3⟩
 obtain⟨K4,S5,m6⟩:=Ji e3 2 R
 refine Tv<|Jb 2 R<|Ju<|Ja2 (l:=[.tmp 4]) V111 (Jp2 R R) R ?_
 cases h
 exact⟨K4,R,(hE.stp S5 R R)⟩
theorem pH {p0:Sig}{aa ac ab ad}{p1:Machine}(g1_0:Rd (Rp.sl (Rp.int .i64)) κ w 0 aa ac p1.Next) (g1_1:Rd (Rp.sl (Rp.int .i64)) κ w 0 ab ad p1.Out){r:Bool}(h:je p0 p1=some r):Ret Tryz.prog 41 [.agg #[vi p0.In,vi p0.Out],.agg #[.slice aa p1.Next.length ac,.slice ab p1.Out.length ad]] w (Pvb κ w r):=by
 unfold je at h
 refine Jk3 κ F41 R N41 R λhE=>Je [1,1,2] R<|Jf1 (κ:=κ) 2 R R R R R R R λb2 w1 K2 S3 f4=>Tv<|Jf1 (κ:=K2) 3 R R R R R R R λb3 w5 K6 S7 f8=>Tv<|Jb 1 R<|Je [2,1,2,2] R<|Jd3 R U28 R Z26<|Jb3 R I26 (f8.ld 0 R R)<|Jn3 R U26 R R<|Jb 1 R<|Jq<|Je [1,1,2,2,2,1,2,2,2,2,1,2,2,1,2,2,2] R ?_
 have f9:=f4.stp S7 R R
 refine Jl tv R R R R (Jd2 (cs:=[vi p0.In,vi p0.Out]) I25 Z25 R R R<|haE f9.cells)<|Ob h λx11 hx11 h=>Jh R R R C102 (eZ (κ:=Mk K6) (p0:=p0) hx11) ?_
 rintro _ w10 ⟨k11,rfl,e12⟩
 obtain⟨K13,S14,m15⟩:=Ji e12 4 R
 refine Tv<|Jn 2 R<|Ob h λp17 h hK17=>Ju1 [(4,2),(5,1),(6,2),(7,2)] [(8,2),(9,2),(10,1),(11,2),(12,2),(13,1),(14,2),(15,2),(16,2)] (λL w'=>L=[(2,.pointer (some ⟨b2,0,none⟩)),(3,.pointer (some ⟨b3,0,none⟩)),(5,vi (p1.Next.length:Int)),(17,.bool p17)]/\∃κ',Stp [] K13 w10 κ' w') tv ?_ ?_
 revert h
 cases ht18:(!x11)
 refine JF λh=>Jn 1 R<|Ob h λx15 hx15 h=>Jh R R R C57 (cu (κ:=Mk K13) hx15) ?_
 rintro _ w19 ⟨k20,rfl,e21⟩
 obtain⟨K22,S23,m24⟩:=Ji e21 6 R
 refine Tv<|Jn 2 R ?_
 cases h
 exact Jv1 _ tv ⟨R,_,S23.wk R⟩<|KM R
 refine JT λh=>Jn 1 R<|Jd1 R R R R<|Jn 2 R ?_
 cases h
 exact Jv1 _ tv ⟨R,_,Jj3⟩<|KM R
 rintro _ w26 _ ⟨rfl,K27,S28⟩
 have h:=hK17
 refine Jn 1 R<|Ob h λp26 h hK29=>Ju1 [(9,2),(10,1),(11,2),(12,2),(13,1),(14,2),(15,2),(16,2)] [] (λL w'=>L=[(2,.pointer (some ⟨b2,0,none⟩)),(3,.pointer (some ⟨b3,0,none⟩)),(5,vi (p1.Next.length:Int)),(26,.bool p26)]/\∃κ',Stp [] K27 w26 κ' w') tv ?_ ?_
 revert h
 cases ht30:p17
 refine JF λh=>Jd3 R U28 R Z26 ?_
 have f31:=f8.stp (S14.tr S28) R R
 refine Jb3 R I26 (f31.ld 1 R R)<|Jn3 R U26 R R<|Jd3 R U28 R Z26<|Jb3 R I26 (f31.ld 0 R R)<|Jn3 R U26 R R<|Jn 2 R ?_
 cases h
 exact Jv1 _ tv ⟨R,_,Jj3⟩<|KM R
 refine JT λh=>Jn 1 R<|Jd1 R R R R<|Jn 2 R<|Jd1 R R R R<|Jn 3 R ?_
 cases h
 exact Jv1 _ tv ⟨R,_,Jj3⟩<|KM R
 rintro _ w32 _ ⟨rfl,K33,S34⟩
 have h:=hK29
 refine Jd ?_
 revert h
 cases ht35:p26
 refine JF λh=>Jy R<|Js<|Jp<|Jq<|Je3 R ?_
 have hN37:(p1.Next.length:Int)<=9223372036854775807:=g1_0.len_le
 refine Ob h λq2 hq39 hK38=>?_
 clear h
 refine Jx1 (λL w'=>∃κ',L=[]/\Stp [] K33 w32 κ' w'/\q2=yk ()) ?_ ?_
 refine Jv<|Jy1 (λk L w'=>∃κ' v6,L=[(2,.pointer (some ⟨b2,0,none⟩)),(3,.pointer (some ⟨b3,0,none⟩)),(5,vi (p1.Next.length:Int)),(6,vi v6)]/\Stp [] K33 w32 κ' w'/\0<=v6/\Int.toNat ((p1.Next.length:Int)-v6)=k/\cntM (fo p0 p1) k v6 ()=some q2) ⟨_,_,⟨K33,0,R,Jj3,(by decide),(by simp),hq39⟩,(KM R)⟩ ?_
 rintro k _ w43 ⟨K44,v6,rfl,S45,hj37,hJ37,h⟩
 rcases k with _ | k
 have hk46:=h;obtain⟨o37,h⟩:=ca (yk (Sum.inl ()):Bool⊕((Unit)⊕(Unit)))
 have hc37:decide (v6<(p1.Next.length:Int))=false:=Jo2 (by omega)
 refine Jq<|Jg3 [2,2,1,2,2] 1 R<|Jd3 R U28 R Z26<|Jb3 R I26 ((f8.stp (T4 S14 S28 S34 S45) R R).ld 0 R R)<|Jn3 R U26 R R<|Jb 1 R<|Jw2 R hc37<|Jc1<|Jt<|Jt ?_
 cases h
 have h:=hk46
 refine Jb1 ?_
 cases h
 exact Jw1 _ ⟨K44,R,S45.wk R,R⟩ KN
 obtain⟨o37,h,hk46⟩:=BI h;unfold fo at h
 have hc37:decide (v6<(p1.Next.length:Int))=true:=Jn2 (by omega)
 refine Jq<|Jg3 [2,2,1,2,2] 1 R<|Jd3 R U28 R Z26 ?_
 have f48:=f8.stp (T4 S14 S28 S34 S45) R R
 refine Jb3 R I26 (f48.ld 0 R R)<|Jn3 R U26 R R<|Jb 1 R<|Jv2 R hc37<|Js<|Jp<|Jq<|Jv<|Jq<|Js1 (κ:=K44) [0,2,3] none [(0,2),(2,2),(1,0),(3,2),(4,0),(5,2),(6,0),(7,1),(8,2),(9,2),(10,2),(12,2),(16,2),(18,2),(11,0),(13,2),(14,0),(15,2),(17,0),(19,2),(20,0),(21,2),(22,2),(23,2),(24,2),(25,2),(27,2),(30,2),(26,0),(28,2),(29,0),(31,1),(32,2),(33,2),(34,2),(35,2),(37,2),(40,2),(36,0),(38,2),(39,0),(41,0),(42,1),(43,1),(44,2),(45,2)] [] (by kernel_rfl) (by kernel_rfl) λw50 S49=>Jd3 R U28 R Z26<|Jn 1 R ?_
 have f51:=f48.stp S49 R R
 refine Jg R (Jc2 I26 R R<|hvC (f51.ld 0 R R) R)<|Ob h λx37 hx37 h=>Jc3 R g1_0 hx37 U26 Z29 ?_
 have f52:=g1_0.stp (T7 S3 S7 S14 S28 S34 S45 S49) R R
 obtain⟨ax37,ux37,f53,hl54⟩:=f52.gSl hx37
 refine Jg R (Jc2 I29 R R<|hvC hl54 R)<|Jn3 R U29 R R ?_
 have f55:=f9.stp (T5 S14 S28 S34 S45 S49) R R
 refine Jg R (Jd2 (cs:=[vi p0.In,vi p0.Out]) I25 Z25 R R R<|haC f55.cells R)<|Ob h λx41 hx41 h=>Jh R R R C103 (mt (κ:=Mk K44) (p0:=p0) hx41) ?_
 rintro _ w56 ⟨k57,rfl,e58⟩
 obtain⟨K59,S60,m61⟩:=Ji e58 6 R
 refine⟨(S60.cl R),Jn 2 R<|Ob h λp57 h hK63=>Ju1 [(10,2),(12,2),(16,2),(18,2),(11,0),(13,2),(14,0),(15,2),(17,0),(19,2),(20,0),(21,2),(22,2),(23,2)] [(24,2),(25,2),(27,2),(30,2),(26,0),(28,2),(29,0),(31,1),(32,2),(33,2),(34,2),(35,2),(37,2),(40,2),(36,0),(38,2),(39,0),(41,0),(42,1),(43,1),(44,2),(45,2)] (λL w'=>L=[(2,.pointer (some ⟨b2,0,none⟩)),(3,.pointer (some ⟨b3,0,none⟩)),(5,vi (p1.Next.length:Int)),(6,vi v6),(57,.bool p57)]/\∃κ',Stp [] K59 w56 κ' w') (S60.cl R) ?_ ?_⟩
 revert h
 cases ht64:((x37.length:Int) !=x41)
 refine JF λh=>Jd3 R U28 R Z26<|Jn 1 R<|Jd3 R U28 R Z26<|Jn 1 R<|Jg R (Jc2 I26 R R<|hvC (f51.ld 1 R R) R)<|Ob h λx47 hx47 h=>Jc3 R g1_1 hx47 U26 Z29 ?_
 obtain⟨ax47,ux47,f66,hl67⟩:=(g1_1.stp (T7 S3 S7 S14 S28 S34 S45 S49) R R).gSl hx47
 refine Jg R (Jc2 I29 R R<|hvC hl67 R)<|Jn3 R U29 R R<|Jg R (Jc2 I26 R R<|hvC (f51.ld 0 R R) R)<|Ob h λx53 hx53 h=>Jc3 R f52 hx53 U26 Z29 ?_
 obtain⟨ax53,ux53,f68,hl69⟩:=f52.gSl hx53
 refine Jg R (Jc2 I29 R R<|hvC hl69 R)<|Jn3 R U29 R R<|Jn 2 R ?_
 cases h
 exact Jv1 _ (S60.cl R) ⟨R,_,Jj3⟩<|KM R
 refine JT λh=>Jn 4 R<|Je1 R R R R<|Jn 1 R<|Je1 R R R R<|Jn 1 R<|Je1 R R R R<|Jn 1 R<|Je1 R R R R<|Jn 3 R ?_
 cases h
 exact Jv1 _ (S60.cl R) ⟨R,_,Jj3⟩<|KM R
 rintro _ w70 _ ⟨rfl,K71,S72⟩
 have h:=hK63
 refine Jn 1 R<|Ob h λp67 h hK73=>Ju1 [(25,2),(27,2),(30,2),(26,0),(28,2),(29,0),(31,1),(32,2),(33,2)] [(34,2),(35,2),(37,2),(40,2),(36,0),(38,2),(39,0),(41,0),(42,1),(43,1),(44,2),(45,2)] (λL w'=>L=[(2,.pointer (some ⟨b2,0,none⟩)),(3,.pointer (some ⟨b3,0,none⟩)),(5,vi (p1.Next.length:Int)),(6,vi v6),(67,.bool p67)]/\∃κ',Stp [] K71 w70 κ' w') ((S60.tr S72).cl R) ?_ ?_
 revert h
 cases ht74:p57
 refine JF λh=>Jd3 R U28 R Z26<|Jn 2 R<|Jg R (Jc2 I26 R R<|hvC (f51.ld 0 R R) R)<|Ob h λx62 hx62 h=>Jc3 R f52 hx62 U26 Z29 ?_
 obtain⟨ax62,ux62,f75,hl76⟩:=f52.gSl hx62
 refine Jg R (Jc2 I29 R R<|hvC hl76 R)<|Ob h λx65 hx65 h=>Jh R R R C104 (fJ (κ:=Mk K71) (Ji3<|f75.stp (S60.tr S72) R R) hx65) ?_
 rintro _ w78 ⟨k79,rfl,e80⟩
 obtain⟨K81,S82,m83⟩:=Ji e80 8 R
 refine⟨((T3 S60 S72 S82).cl R),Jn 2 R ?_⟩
 cases h
 exact Jv1 _ ((T3 S60 S72 S82).cl R) ⟨R,_,S82.wk R⟩<|KM R
 refine JT λh=>Jn 3 R<|Je1 R R R R<|Jn 1 R<|Je1 R R R R<|Jd1 R R R R<|Jn 2 R ?_
 cases h
 exact Jv1 _ ((S60.tr S72).cl R) ⟨R,_,Jj3⟩<|KM R
 rintro _ w85 _ ⟨rfl,K86,S87⟩
 have h:=hK73
 refine Jn 1 R<|Ob h λp79 h hK88=>Ju1 [(35,2),(37,2),(40,2),(36,0),(38,2),(39,0),(41,0),(42,1),(43,1),(44,2),(45,2)] [] (λL w'=>L=[(2,.pointer (some ⟨b2,0,none⟩)),(3,.pointer (some ⟨b3,0,none⟩)),(5,vi (p1.Next.length:Int)),(6,vi v6),(79,.bool p79)]/\∃κ',Stp [] K86 w85 κ' w') ((T3 S60 S72 S87).cl R) ?_ ?_
 revert h
 cases ht89:p67
 refine JF λh=>Jd3 R U28 R Z26<|Jn 1 R<|Jd3 R U25 R Z2<|Jg R (Jc2 I26 R R<|hvC (f51.ld 1 R R) R)<|Ob h λx72 hx72 h=>Jc3 R g1_1 hx72 U26 Z29 ?_
 obtain⟨ax72,ux72,f91,hl92⟩:=(g1_1.stp (T7 S3 S7 S14 S28 S34 S45 S49) R R).gSl hx72
 refine Jg R (Jc2 I29 R R<|hvC hl92 R)<|Jg R (Jc2 I2 R R<|hvC (f55.ld 1 R R) R)<|Ob h λx76 hx76 h=>Jh R R R C59 (cv (κ:=Mk K86) hx76) ?_
 rintro _ w93 ⟨k94,rfl,e95⟩
 obtain⟨K96,S97,m98⟩:=Ji e95 8 R
 have S001:=(T4 S60 S72 S87 S97)
 refine⟨(S001.cl R),Ob h λx77 hx77 h=>Jh R R R C104 (fJ (κ:=Mk K96) (Ji3<|f91.stp S001 R R) hx77) ?_⟩
 rintro _ w101 ⟨k102,rfl,e103⟩
 obtain⟨K104,S105,m106⟩:=Ji e103 10 R
 refine⟨((T5 S60 S72 S87 S97 S105).cl R),Jn 2 R ?_⟩
 cases h
 exact Jv1 _ ((T5 S60 S72 S87 S97 S105).cl R) ⟨R,_,(S97.tr S105).wk R⟩<|KM R
 refine JT λh=>Jn 3 R<|Je1 R R R R<|Jn 1 R<|Je1 R R R R<|Je1 R R R R<|Jd1 R R R R<|Jd1 R R R R<|Jn 2 R ?_
 cases h
 exact Jv1 _ ((T3 S60 S72 S87).cl R) ⟨R,_,Jj3⟩<|KM R
 rintro _ w108 _ ⟨rfl,K109,S110⟩
 have h:=hK88
 refine Jt1<|Jd ?_
 revert h
 cases ht111:p79
 refine JF λh=>Jy R<|Js<|Jz<|Jp<|Jf3 R ?_
 have hw37:sh .i64 (v6+1)=v6+1:=wr1 hj37 (Jm2 hc37) hN37
 rw[hw37]
 have hc37:=Jm2 hc37
 cases h
 exact Jz1 λa ha=>⟨k,_,Ja3 _,⟨K109,v6+1,R,(T6 S45 S49 S60 S72 S87 S110).wk R,by omega,by omega,hk46⟩,(ha.mm R)⟩
 refine JT λh=>Jx R<|Je3 R<|Ju<|Ja1<|Jw<|Jw ?_
 cases h
 obtain rfl:=Option.some.inj hk46
 have h:=yL hK38
 refine Ja1<|Jq2<|Jw<|Ja2 (l:=[.tmp 4]) V41 (Jp2 R R) R ?_
 cases h
 exact⟨K109,R,(hE.stp (T11 S3 S7 S14 S28 S34 S45 S49 S60 S72 S87 S110) R R)⟩
 rintro _ w40 ⟨K41,rfl,S42,rfl⟩
 have h:=yI hK38
 refine Jp<|Je3 R<|Ju<|Ja2 (l:=[.tmp 4]) V41 (Jp2 R R) R ?_
 cases h
 exact⟨K41,R,(hE.stp (T6 S3 S7 S14 S28 S34 S42) R R)⟩
 refine JT λh=>Jx R<|Je3 R<|Ju<|Jw<|Ja2 (l:=[.tmp 4]) V41 (Jp2 R R) R ?_
 cases h
 exact⟨K33,R,(hE.stp (T5 S3 S7 S14 S28 S34) R R)⟩
theorem rh {p0:Sig}{aa ac ab ad}{p1:Rival}(g1_0:Rd (Rp.int .i64) κ w 0 aa ac p1.In) (g1_1:Rd (Rp.sl (Rp.int .i64)) κ w 0 ab ad p1.Next){r:Bool}(h:kQ p0 p1=some r):Ret Tryz.prog 53 [.agg #[vi p0.In,vi p0.Out],.agg #[.slice aa p1.In.length ac,.slice ab p1.Next.length ad]] w (Pvb κ w r):=by
 unfold kQ at h
 refine Jk3 κ F53 R N53 R λhE=>Je [1,1,2] R<|Jf1 (κ:=κ) 2 R R R R R R R λb2 w1 K2 S3 f4=>Tv<|Jf1 (κ:=K2) 3 R R R R R R R λb3 w5 K6 S7 f8=>Tv<|Jb 1 R<|Je [2,1,2,2] R<|Jd3 R U31 R Z29<|Jb3 R I29 (f8.ld 0 R R)<|Jn3 R U29 R R<|Jb 1 R<|Jq<|Jq<|Js1 (κ:=K6) [2,3] none [(0,0),(1,1),(2,2),(3,2),(4,2),(5,1),(6,2),(7,2),(8,2),(9,2),(12,2),(10,0),(11,2),(13,0),(14,2),(15,2),(16,2),(17,2),(18,2),(19,0),(20,0),(21,1),(22,1),(23,2),(24,2)] [] (by kernel_rfl) (by kernel_rfl) λw10 S9=>?_
 have f11:=f4.stp (S7.tr S9) R R
 refine Jg R (Jd2 (cs:=[vi p0.In,vi p0.Out]) I25 Z25 R R R<|haC f11.cells R)<|Ob h λx11 hx11 h=>Jh R R R C102 (eZ (κ:=Mk K6) (p0:=p0) hx11) ?_
 rintro _ w12 ⟨k13,rfl,e14⟩
 obtain⟨K15,S16,m17⟩:=Ji e14 4 R
 refine⟨(S16.cl R),Jn 2 R<|Ob h λp17 h hK19=>Ju1 [(4,2),(5,1),(6,2),(7,2)] [(8,2),(9,2),(12,2),(10,0),(11,2),(13,0),(14,2),(15,2),(16,2),(17,2),(18,2),(19,0),(20,0),(21,1),(22,1),(23,2),(24,2)] (λL w'=>L=[(2,.pointer (some ⟨b2,0,none⟩)),(3,.pointer (some ⟨b3,0,none⟩)),(5,vi (p1.In.length:Int)),(17,.bool p17)]/\∃κ',Stp [] K15 w12 κ' w') (S16.cl R) ?_ ?_⟩
 revert h
 cases ht20:(!x11)
 refine JF λh=>Jn 1 R<|Ob h λx15 hx15 h=>Jh R R R C57 (cu (κ:=Mk K15) hx15) ?_
 rintro _ w21 ⟨k22,rfl,e23⟩
 obtain⟨K24,S25,m26⟩:=Ji e23 6 R
 refine⟨((S16.tr S25).cl R),Jn 2 R ?_⟩
 cases h
 exact Jv1 _ ((S16.tr S25).cl R) ⟨R,_,S25.wk R⟩<|KM R
 refine JT λh=>Jn 1 R<|Jd1 R R R R<|Jn 2 R ?_
 cases h
 exact Jv1 _ (S16.cl R) ⟨R,_,Jj3⟩<|KM R
 rintro _ w28 _ ⟨rfl,K29,S30⟩
 have h:=hK19
 refine Jn 1 R<|Ob h λp26 h hK31=>Ju1 [(9,2),(12,2),(10,0),(11,2),(13,0),(14,2),(15,2),(16,2)] [(17,2),(18,2),(19,0),(20,0),(21,1),(22,1),(23,2),(24,2)] (λL w'=>L=[(2,.pointer (some ⟨b2,0,none⟩)),(3,.pointer (some ⟨b3,0,none⟩)),(5,vi (p1.In.length:Int)),(26,.bool p26)]/\∃κ',Stp [] K29 w28 κ' w') ((S16.tr S30).cl R) ?_ ?_
 revert h
 cases ht32:p17
 refine JF λh=>Jd3 R U31 R Z26<|Jd3 R U31 R Z29 ?_
 have f33:=f8.stp S9 R R
 refine Jg R (Jc2 I26 R R<|hvC (f33.ld 1 R R) R)<|Jn3 R U26 R R<|Jg R (Jc2 I29 R R<|hvC (f33.ld 0 R R) R)<|Jn3 R U29 R R<|Jn 2 R ?_
 cases h
 exact Jv1 _ ((S16.tr S30).cl R) ⟨R,_,Jj3⟩<|KM R
 refine JT λh=>Jn 2 R<|Je1 R R R R<|Jn 1 R<|Je1 R R R R<|Jn 3 R ?_
 cases h
 exact Jv1 _ ((S16.tr S30).cl R) ⟨R,_,Jj3⟩<|KM R
 rintro _ w34 _ ⟨rfl,K35,S36⟩
 have h:=hK31
 refine Jn 1 R<|Ob h λp34 h hK37=>Ju1 [(18,2),(19,0),(20,0),(21,1),(22,1),(23,2),(24,2)] [] (λL w'=>L=[(2,.pointer (some ⟨b2,0,none⟩)),(3,.pointer (some ⟨b3,0,none⟩)),(5,vi (p1.In.length:Int)),(34,.bool p34)]/\∃κ',Stp [] K35 w34 κ' w') ((T3 S16 S30 S36).cl R) ?_ ?_
 revert h
 cases ht38:p26
 refine JF λh=>Jd3 R U31 R Z29<|Jg R (Jc2 I29 R R<|hvC ((f8.stp S9 R R).ld 0 R R) R)<|Jg R (Jd2 (cs:=[vi p0.In,vi p0.Out]) I25 Z25 R R R<|haC f11.cells R)<|Ob h λx31 hx31 h=>Jh R R R C72 (dZ (κ:=Mk K35) (p0:=p0) hx31) ?_
 rintro _ w40 ⟨k41,rfl,e42⟩
 obtain⟨K43,S44,m45⟩:=Ji e42 6 R
 refine⟨((T4 S16 S30 S36 S44).cl R),Ob h λx32 hx32 h=>Jh R R R C104 (fJ (κ:=Mk K43) (Ji3<|g1_0.stp (T7 S3 S7 S9 S16 S30 S36 S44) R R) hx32) ?_⟩
 rintro _ w48 ⟨k49,rfl,e50⟩
 obtain⟨K51,S52,m53⟩:=Ji e50 8 R
 refine⟨((T5 S16 S30 S36 S44 S52).cl R),Jn 2 R ?_⟩
 cases h
 exact Jv1 _ ((T5 S16 S30 S36 S44 S52).cl R) ⟨R,_,(S44.tr S52).wk R⟩<|KM R
 refine JT λh=>Jn 1 R<|Je1 R R R R<|Je1 R R R R<|Jd1 R R R R<|Jd1 R R R R<|Jn 2 R ?_
 cases h
 exact Jv1 _ ((T3 S16 S30 S36).cl R) ⟨R,_,Jj3⟩<|KM R
 rintro _ w55 _ ⟨rfl,K56,S57⟩
 have h:=hK37
 refine Jt1<|Jd ?_
 revert h
 cases ht58:p34
 refine JF λh=>Jy R<|Js<|Jp<|Jq<|Je3 R ?_
 have hN60:(p1.Next.length:Int)<=9223372036854775807:=g1_1.len_le
 refine Ob h λq2 hq62 hK61=>?_
 clear h
 refine Jx1 (λL w'=>∃κ',L=[]/\Stp [] K56 w55 κ' w'/\q2=yk ()) ?_ ?_
 refine Jv<|Jy1 (λk L w'=>∃κ' v6,L=[(2,.pointer (some ⟨b2,0,none⟩)),(3,.pointer (some ⟨b3,0,none⟩)),(5,vi (p1.In.length:Int)),(6,vi v6)]/\Stp [] K56 w55 κ' w'/\0<=v6/\Int.toNat ((p1.Next.length:Int)-v6)=k/\cntM (gJ p0 p1) k v6 ()=some q2) ⟨_,_,⟨K56,0,R,Jj3,(by decide),(by simp),hq62⟩,(KM R)⟩ ?_
 rintro k _ w66 ⟨K67,v6,rfl,S68,hj60,hJ60,h⟩
 rcases k with _ | k
 have hk69:=h;obtain⟨o60,h⟩:=ca (yk (Sum.inl ()):Bool⊕((Unit)⊕(Unit)))
 have hc60:decide (v6<(p1.Next.length:Int))=false:=Jo2 (by omega)
 refine Jq<|Jg3 [2,2,1,2,2] 1 R<|Jd3 R U31 R Z26<|Jb3 R I26 ((f8.stp (T6 S9 S16 S30 S36 S57 S68) R R).ld 1 R R)<|Jn3 R U26 R R<|Jb 1 R<|Jw2 R hc60<|Jc1<|Jt<|Jt ?_
 cases h
 have h:=hk69
 refine Jb1 ?_
 cases h
 exact Jw1 _ ⟨K67,R,S68.wk R,R⟩ KN
 obtain⟨o60,h,hk69⟩:=BI h;unfold gJ at h
 have hc60:decide (v6<(p1.Next.length:Int))=true:=Jn2 (by omega)
 refine Jq<|Jg3 [2,2,1,2,2] 1 R<|Jd3 R U31 R Z26 ?_
 have f71:=f8.stp (T6 S9 S16 S30 S36 S57 S68) R R
 refine Jb3 R I26 (f71.ld 1 R R)<|Jn3 R U26 R R<|Jb 1 R<|Jv2 R hc60<|Js<|Jp<|Jq<|Jv<|Jq<|Js1 (κ:=K67) [0,2,3] none [(0,2),(2,2),(1,0),(3,2),(4,0),(5,2),(6,0),(7,1),(8,2),(9,2),(10,2),(12,2),(15,2),(11,0),(13,2),(14,0),(16,1),(17,2),(18,2)] [] (by kernel_rfl) (by kernel_rfl) λw73 S72=>Jd3 R U31 R Z26<|Jn 1 R ?_
 have f74:=f71.stp S72 R R
 refine Jg R (Jc2 I26 R R<|hvC (f74.ld 1 R R) R)<|Ob h λx45 hx45 h=>Jc3 R g1_1 hx45 U26 Z29 ?_
 have f75:=g1_1.stp (T9 S3 S7 S9 S16 S30 S36 S57 S68 S72) R R
 obtain⟨ax45,ux45,f76,hl77⟩:=f75.gSl hx45
 refine Jg R (Jc2 I29 R R<|hvC hl77 R)<|Jn3 R U29 R R<|Jg R (Jd2 (cs:=[vi p0.In,vi p0.Out]) I25 Z25 R R R<|haC (f11.stp (T6 S16 S30 S36 S57 S68 S72) R R).cells R)<|Ob h λx49 hx49 h=>Jh R R R C73 (lQ (κ:=Mk K67) (p0:=p0) hx49) ?_
 rintro _ w79 ⟨k80,rfl,e81⟩
 obtain⟨K82,S83,m84⟩:=Ji e81 6 R
 refine⟨(S83.cl R),Jn 2 R<|Ob h λp60 h hK86=>Ju1 [(10,2),(12,2),(15,2),(11,0),(13,2),(14,0),(16,1),(17,2),(18,2)] [] (λL w'=>L=[(2,.pointer (some ⟨b2,0,none⟩)),(3,.pointer (some ⟨b3,0,none⟩)),(5,vi (p1.In.length:Int)),(6,vi v6),(60,.bool p60)]/\∃κ',Stp [] K82 w79 κ' w') (S83.cl R) ?_ ?_⟩
 revert h
 cases ht87:((x45.length:Int) !=x49)
 refine JF λh=>Jd3 R U31 R Z26<|Jn 2 R<|Jg R (Jc2 I26 R R<|hvC (f74.ld 1 R R) R)<|Ob h λx55 hx55 h=>Jc3 R f75 hx55 U26 Z29 ?_
 obtain⟨ax55,ux55,f88,hl89⟩:=f75.gSl hx55
 refine Jg R (Jc2 I29 R R<|hvC hl89 R)<|Ob h λx58 hx58 h=>Jh R R R C104 (fJ (κ:=Mk K82) (Ji3<|f88.stp S83 R R) hx58) ?_
 rintro _ w91 ⟨k92,rfl,e93⟩
 obtain⟨K94,S95,m96⟩:=Ji e93 8 R
 refine⟨((S83.tr S95).cl R),Jn 2 R ?_⟩
 cases h
 exact Jv1 _ ((S83.tr S95).cl R) ⟨R,_,S95.wk R⟩<|KM R
 refine JT λh=>Jn 3 R<|Je1 R R R R<|Jn 1 R<|Je1 R R R R<|Jd1 R R R R<|Jn 2 R ?_
 cases h
 exact Jv1 _ (S83.cl R) ⟨R,_,Jj3⟩<|KM R
 rintro _ w98 _ ⟨rfl,K99,S100⟩
 have h:=hK86
 refine Jt1<|Jd ?_
 revert h
 cases ht101:p60
 refine JF λh=>Jy R<|Js<|Jz<|Jp<|Jf3 R ?_
 have hw60:sh .i64 (v6+1)=v6+1:=wr1 hj60 (Jm2 hc60) hN60
 rw[hw60]
 have hc60:=Jm2 hc60
 cases h
 exact Jz1 λa ha=>⟨k,_,Ja3 _,⟨K99,v6+1,R,(T4 S68 S72 S83 S100).wk R,by omega,by omega,hk69⟩,(ha.mm R)⟩
 refine JT λh=>Jx R<|Je3 R<|Ju<|Ja1<|Jw<|Jw ?_
 cases h
 obtain rfl:=Option.some.inj hk69
 have h:=yL hK61
 refine Ja1<|Jq2<|Jw<|Ja2 (l:=[.tmp 4]) V53 (Jp2 R R) R ?_
 cases h
 exact⟨K99,R,(hE.stp (T11 S3 S7 S9 S16 S30 S36 S57 S68 S72 S83 S100) R R)⟩
 rintro _ w63 ⟨K64,rfl,S65,rfl⟩
 have h:=yI hK61
 refine Jp<|Je3 R<|Ju<|Ja2 (l:=[.tmp 4]) V53 (Jp2 R R) R ?_
 cases h
 exact⟨K64,R,(hE.stp (T8 S3 S7 S9 S16 S30 S36 S57 S65) R R)⟩
 refine JT λh=>Jx R<|Je3 R<|Ju<|Jw<|Ja2 (l:=[.tmp 4]) V53 (Jp2 R R) R ?_
 cases h
 exact⟨K56,R,(hE.stp (T7 S3 S7 S9 S16 S30 S36 S57) R R)⟩
end Go.Proofs.YtpcjbkgbnoocaaaGreat
