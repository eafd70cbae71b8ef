/- The walks, part 13. By program. -/
import Derived.Test.YtpcjbkgbnoocaaaGreatFns12MO
set_option linter.unusedVariables false
set_option linter.unusedSimpArgs false
open Go.IntKind renaming wrap → t0
open Sum renaming inr → xe
namespace Go.Proofs.YtpcjbkgbnoocaaaGreat
open Go Go.Wk Go.Proofs
set_option maxRecDepth 100000
set_option maxHeartbeats 1000000
variable {w:World}{κ:Col}
theorem pM {p0:Sig}{a1 u1}{p1:(List Clause)}(g1:Rd Clause.rp κ w 0 a1 u1 p1){r:Det×Bool}(h:ed p0 p1=some r):Ret Tryz.prog 68 [.agg #[vi p0.In,vi p0.Out],.slice a1 p1.length u1] w (λv w'=>∃(κ':Col) (ra0:Option Addr) (ru0:Nat) (ra1:Option Addr) (ru1:Nat),v= .tuple #[.agg #[.slice ra0 r.1.Next.length ru0,.slice ra1 r.1.Pairs.length ru1],.bool r.2]/\Ent κ w κ' w'/\Oc (Ep.own E6 2) 29 κ' w' 2 ra0 ru0 r.1.Next/\Oc Pair.ep154 154 κ' w' 3 ra1 ru1 r.1.Pairs):=by
 unfold ed at h
 refine Jk3 κ F68 R N68 R λhE=>Je [1,1,2] R<|Jf1 (κ:=κ) 2 R R R R R R R λb2 w1 K2 S3 f4=>Tv<|Jg1 (κ:=K2) 3 R R R R R X100 R λb4 w5 K6 S7 f8=>Tv<|Jb 1 R<|Jq<|Je [1,2,1,2] R ?_
 have f9:=f4.stp S7 R R
 refine Jl tv R R R R (Jd2 (cs:=[vi p0.In,vi p0.Out]) I25 Z25 R R R<|haE f9.cells)<|Jn 1 R<|Ob h λx12 hx12 h=>?_
 have f10:=g1.stp (S3.tr S7) R R
 refine Jh R R R C114 (po (κ:=Mk K6) (p0:=p0) (Ji3 f10) hx12) ?_
 rintro _ w11 ⟨k12,rfl,e13⟩
 obtain⟨K14,S15,m16⟩:=Ji e13 4 R
 refine Tv<|Jb 1 R ?_
 revert h
 cases ht18:(!x12)
 refine JF λh=>Jy R<|Js<|Jp<|Je [1,1,1,1,2,1,1] R ?_
 have f24:=f9.stp S15 R R
 refine Jl tv R R R R (Jd2 (cs:=[vi p0.In,vi p0.Out]) I25 Z25 R R R<|haE f24.cells)<|Ob h λx16 hx16 h=>Jh R R R C58 (eZ (κ:=Mk K14) (p0:=p0) hx16) ?_
 rintro _ w25 ⟨k26,rfl,e27⟩
 obtain⟨K28,S29,m30⟩:=Ji e27 6 R
 refine Tv<|Ob h λx17 hx17 h=>Jl1 (κ:=K28) (E:=E6) (z:=(0:Int)) 8 R R R R R R R Y29 bG R R R R R (λ_ _ _=>R) (Ju2 hx17) λaw av w32 K33 S34 f35=>Tv<|Jn1 (κ:=K33) (E:=(Ep.own E6 2)) 9 [8] (parts:=[(0,.tmp 17)]) (cells:=[.slice aw x17.length av]) (xs:=([x17]:List (List Int))) R R R R R R Y26 bN R R R R R R R R R R ⟨[.slice aw x17.length av],[],Zl K33 w32 [8],Zl K33 w32 [],R,Zl.sp (l1:=[8]) (l2:=[]) R,Zl.sr (l1:=[8]) (l2:=[]),⟨_,_,R,f35⟩,R⟩ λar au w36 K37 S38 f39=>Tv<|Jf R (bJ (parts:=[(0,.tmp 18)]) (cells:=[.slice ar ([x17]:List (List Int)).length au,.slice none 0 0]) R R (by kernel_rfl))<|Jg1 (κ:=K37) 10 R R R R R X100 R λb6 w40 K41 S42 f43=>Tv<|Jj1 (κ:=K41) 10 (vc:=[.slice ar ([x17]:List (List Int)).length au,.slice none 0 0]) R R R R R R R Z100 R R f43 R λw44 S45 f46=>Tv<|Jd<|Jq<|Je3 R ?_
 have hN47:(p1.length:Int)<=9223372036854775807:=f10.len_le
 refine Ob h λq2 hq49 hK48=>?_
 clear h
 refine Jx1 (λL w'=>∃κ',∃s3:(List<|List Int)×(List Pair),∃ae ai af ah,L=[(4,.pointer (some ⟨b4,0,none⟩)),(6,.pointer (some ⟨b6,0,none⟩))]/\Stp [10,12,13,16,18,19,20] K41 w44 κ' w'/\Oc (Ep.own E6 2) 29 κ' w' 9 ae ai s3.1/\Oc Pair.ep154 154 κ' w' 11 af ah s3.2/\Bc κ' w' 10 b6 100 [.slice ae s3.1.length ai,.slice af s3.2.length ah]/\q2=xe s3) ?_ ?_
 refine Jv<|Jy1 (λk L w'=>∃κ' v7,∃s1:(List<|List Int)×(List Pair),∃ap an ao aq,L=[(1,.slice a1 p1.length u1),(2,.pointer (some ⟨b2,0,none⟩)),(4,.pointer (some ⟨b4,0,none⟩)),(6,.pointer (some ⟨b6,0,none⟩)),(7,vi v7)]/\Stp [10,12,13,16,18,19,20] K41 w44 κ' w'/\Oc (Ep.own E6 2) 29 κ' w' 9 ap an s1.1/\Oc Pair.ep154 154 κ' w' 11 ao aq s1.2/\Bc κ' w' 10 b6 100 [.slice ap s1.1.length an,.slice ao s1.2.length aq]/\0<=v7/\Int.toNat ((p1.length:Int)-v7)=k/\cntM (dW p0 p1) k v7 s1=some q2) ⟨_,_,⟨K41,0,((([x17]:List (List Int)):(List<|List Int)),(([]:List Pair):(List Pair))),ar,au,none,0,R,Jj3,(f39.stp (S42.tr S45) R R),Ow.nil,f46,(by decide),(by simp),hq49⟩,(KM R)⟩ ?_
 rintro k _ w56 ⟨K57,v7,s1,ap,an,ao,aq,rfl,S58,f59,f60,f61,hj47,hJ47,h⟩
 rcases k with _ | k
 have hk63:=h;obtain⟨o47,h⟩:=bP (xe (Sum.inl s1):(Det×Bool)⊕(((List (List Int))×(List Pair))⊕((List (List Int))×(List Pair))))
 have hc47:decide (v7<(p1.length:Int))=false:=Jo2 (by omega)
 refine Jq<|Jg3 [2,2,2,2] 2 R<|Jn3 R U49 R R<|Jb 1 R<|Jw2 R hc47<|Jc1<|Jt<|Jt ?_
 cases h
 have h:=hk63
 refine Jb1 ?_
 cases h
 exact Jw1 _ ⟨K57,(s1.1,s1.2),ap,an,ao,aq,R,S58.wk R,f59,f60,f61,R⟩<|KM R
 obtain⟨o47,h,hk63⟩:=BI h;unfold dW at h
 have hc47:decide (v7<(p1.length:Int))=true:=Jn2 (by omega)
 refine Jq<|Jg3 [2,2,2,2] 2 R<|Jn3 R U49 R R<|Jb 1 R<|Jv2 R hc47<|Js<|Jp<|Jq<|Jv<|Jq<|Ob h λx32 hx32 h=>Ob h λx34 hx34 h=>Ob h λx35 hx35 h=>Jx1 (λL w'=>∃κ' b8 ak aj al am,L=[(1,.slice a1 p1.length u1),(2,.pointer (some ⟨b2,0,none⟩)),(4,.pointer (some ⟨b4,0,none⟩)),(6,.pointer (some ⟨b6,0,none⟩)),(7,vi v7),(8,.pointer (some ⟨b8,0,none⟩)),(9,.bool x35.2)]/\Stp [12,16,18,19,20] K57 w56 κ' w'/\Oc (Ep.own E6 2) 29 κ' w' 12 ak aj x35.1.Next/\Oc Pair.ep154 154 κ' w' 13 al am x35.1.Pairs/\Bc κ' w' 14 b8 100 [.slice ak x35.1.Next.length aj,.slice al x35.1.Pairs.length am]) ?_ ?_
 refine WC.rxt (κ:=K57) [0,2,10] none (by kernel_rfl) λw71 S72=>Jq1 (fuel:=8) [(3,2),(4,2),(5,2),(0,0),(1,0),(2,0),(6,0)] (by kernel_rfl) (by kernel_rfl) R<|Jn 2 R<|Jc3 R f10 hx32 U49 Z119 ?_
 have f73:=f24.stp (T7 S29 S34 S38 S42 S45 S58 S72) R R
 refine Jg R (Jd2 (cs:=[vi p0.In,vi p0.Out]) I25 Z25 R R R<|haC f73.cells R)<|Jg R (Jd2 (cs:=[.slice ap s1.1.length an,.slice ao s1.2.length aq]) I100 Z100 R R R<|haC (f61.stp S72 R R).cells R)<|Jg R (Jd2 (cs:=[vi p0.In,vi p0.Out]) I25 Z25 R R R<|haC f73.cells R) ?_
 obtain⟨cse76,hre76,hle76⟩:=((f10.stp (T8 S15 S29 S34 S38 S42 S45 S58 S72) R R)).gSt hx32
 obtain⟨ae76_0,ue76_0,ae76_1,ue76_1,rfl,fe76_0,fe76_1⟩:=Clause.un hre76
 refine Jg R (Jd2 (cs:=[vi x32.Kind,.slice ae76_0 x32.A.length ue76_0,.slice ae76_1 x32.B.length ue76_1]) I119 Z119 R R R<|haC hle76 R)<|Jp1<|WA.fork2 (fuel:=7) 7 12 (by kernel_rfl) R ?_ ?_
 refine Jh R R R C116 (lW (κ:=Mk K57) (p0:=p0) (p1:=x32) (Ji3 fe76_0) (Ji3 fe76_1) hx34) ?_
 rintro _ w77 ⟨k78,az,ay,aA,ax,rfl,e79,f80,f81⟩
 obtain⟨K82,S83,m84⟩:=Ji e79 12 R
 refine⟨(S83.cl R),?_⟩
 have f86:=f80.mx (cm (bI _) _) m84 R (R:12+2=14)
 have f87:=f81.mx Pair.no154 m84 R (R:12+3=15)
 refine Jp1<|WA.fork2 (fuel:=6) 8 12 (by kernel_rfl) R ?_ ?_
 refine Jh R R R C115 (jU (κ:=Mk K82) (p0:=p0) (p1:=(⟨s1.1,s1.2⟩:Det)) (p2:=x34) (Ji3 (f59.stp (S72.tr S83) R R).rdc) (Ji3 (f60.stp (S72.tr S83) R R).rdc) (Ji3 f86.rdc) (Ji3 f87.rdc) hx35) ?_
 rintro _ w90 ⟨k91,aa,ab,ac,ad,rfl,e92,f93,f94⟩
 obtain⟨K95,S96,m97⟩:=Ji e92 16 R
 exact⟨((S83.tr S96).cl R),Jp1<|Jq1 (fuel:=0) [(9,2),(10,2),(11,2),(12,1),(13,1),(14,2)] (by kernel_rfl) (by kernel_rfl) R<|Jn 3 R<|Jg1 (κ:=K95) 20 R R R R R X100 R λb8 w101 K102 S103 f104=>⟨((T3 S83 S96 S103).cl R),Jj1 (κ:=K102) 20 (vc:=[.slice aa x35.1.Next.length ab,.slice ac x35.1.Pairs.length ad]) R R R R R R R Z100 R R f104 R λw105 S106 f107=>⟨((T4 S83 S96 S103 S106).cl R),Jn 1 R<|Jp1<|Jr1 [] (by kernel_rfl) (by kernel_rfl) R<|Jo<|Jw1 _ ⟨(λb=>ren [(18,12),(19,13),(20,14)]<|K102 b),b8,aa,ab,ac,ad,R,(Jy2 ((T5 S72 S83 S96 S103 S106).wk R) [(18,12),(19,13),(20,14)] R),(((f93.mx (cm (bI _) _) m97 R (R:16+2=18)).stp (S103.tr S106) R R).map (ren [(18,12),(19,13),(20,14)]) R R),(((f94.mx Pair.no154 m97 R (R:16+3=19)).stp (S103.tr S106) R R).map (ren [(18,12),(19,13),(20,14)]) R R),(f107.map (ren [(18,12),(19,13),(20,14)]) R R)⟩<|KM R⟩⟩⟩
 refine Jg1 (κ:=K82) 16 R R R R R X100 R λb8 w110 K111 S112 f113=>⟨((S83.tr S112).cl R),Jp1<|Jq1 (fuel:=0) [(8,1),(9,2),(10,2),(11,2),(13,1),(14,2)] (by kernel_rfl) (by kernel_rfl) R<|Jh R R R C115 (jU (κ:=Mk K111) (p0:=p0) (p1:=(⟨s1.1,s1.2⟩:Det)) (p2:=x34) (Ji3 (f59.stp (T3 S72 S83 S112) R R).rdc) (Ji3 (f60.stp (T3 S72 S83 S112) R R).rdc) (Ji3 (f86.stp S112 R R).rdc) (Ji3 (f87.stp S112 R R).rdc) hx35) ?_⟩
 rintro _ w118 ⟨k119,aa,ab,ac,ad,rfl,e120,f121,f122⟩
 obtain⟨K123,S124,m125⟩:=Ji e120 17 R
 exact⟨((T3 S83 S112 S124).cl R),Jn 3 R<|Jj1 (κ:=K123) 16 (vc:=[.slice aa x35.1.Next.length ab,.slice ac x35.1.Pairs.length ad]) R R R R R R R Z100 R R (f113.stp S124 R R) R λw130 S131 f132=>⟨((T4 S83 S112 S124 S131).cl R),Jn 1 R<|Jp1<|Jr1 [] (by kernel_rfl) (by kernel_rfl) R<|Jo<|Jw1 _ ⟨(λb=>ren [(19,12),(20,13),(16,14)]<|K123 b),b8,aa,ab,ac,ad,R,(Jy2 ((T5 S72 S83 S112 S124 S131).wk R) [(19,12),(20,13),(16,14)] R),(((f121.mx (cm (bI _) _) m125 R (R:17+2=19)).stp S131 R R).map (ren [(19,12),(20,13),(16,14)]) R R),(((f122.mx Pair.no154 m125 R (R:17+3=20)).stp S131 R R).map (ren [(19,12),(20,13),(16,14)]) R R),(f132.map (ren [(19,12),(20,13),(16,14)]) R R)⟩<|KM R⟩⟩
 refine Jg1 (κ:=K57) 12 R R R R R X100 R λb8 w135 K136 S137 f138=>⟨(S137.cl R),Jp1<|Jq1 (fuel:=0) [(7,1),(8,1),(9,2),(10,2),(11,2),(13,1),(14,2)] (by kernel_rfl) (by kernel_rfl) R<|Jh R R R C116 (lW (κ:=Mk K136) (p0:=p0) (p1:=x32) (Ji3<|fe76_0.stp S137 R R) (Ji3<|fe76_1.stp S137 R R) hx34) ?_⟩
 rintro _ w141 ⟨k142,az,ay,aA,ax,rfl,e143,f144,f145⟩
 obtain⟨K146,S147,m148⟩:=Ji e143 13 R
 refine⟨((S137.tr S147).cl R),Jh R R R C115 (jU (κ:=Mk K146) (p0:=p0) (p1:=(⟨s1.1,s1.2⟩:Det)) (p2:=x34) (Ji3 (f59.stp (T3 S72 S137 S147) R R).rdc) (Ji3 (f60.stp (T3 S72 S137 S147) R R).rdc) (Ji3 (f144.mx (cm (bI _) _) m148 R (R:13+2=15)).rdc) (Ji3 (f145.mx Pair.no154 m148 R (R:13+3=16)).rdc) hx35) ?_⟩
 rintro _ w154 ⟨k155,aa,ab,ac,ad,rfl,e156,f157,f158⟩
 obtain⟨K159,S160,m161⟩:=Ji e156 17 R
 have S001:=(T3 S137 S147 S160)
 exact⟨(S001.cl R),Jn 3 R<|Jj1 (κ:=K159) 12 (vc:=[.slice aa x35.1.Next.length ab,.slice ac x35.1.Pairs.length ad]) R R R R R R R Z100 R R (f138.stp (S147.tr S160) R R) R λw166 S167 f168=>⟨((S001.tr S167).cl R),Jn 1 R<|Jp1<|Jr1 [] (by kernel_rfl) (by kernel_rfl) R<|Jo<|Jw1 _ ⟨(λb=>ren [(19,12),(20,13),(12,14)]<|K159 b),b8,aa,ab,ac,ad,R,(Jy2 ((T5 S72 S137 S147 S160 S167).wk R) [(19,12),(20,13),(12,14)] R),(((f157.mx (cm (bI _) _) m161 R (R:17+2=19)).stp S167 R R).map (ren [(19,12),(20,13),(12,14)]) R R),(((f158.mx Pair.no154 m161 R (R:17+3=20)).stp S167 R R).map (ren [(19,12),(20,13),(12,14)]) R R),(f168.map (ren [(19,12),(20,13),(12,14)]) R R)⟩<|KM R⟩⟩
 rintro _ w64 ⟨K65,b8,ak,aj,al,am,rfl,S66,f68,f69,f70⟩
 refine Jp<|Jq<|Je3 R ?_
 revert h
 cases ht171:(!x35.2)
 refine JF λh=>Jy R<|Js<|Jp<|Ja [1,1] R<|Jl tv R R R R (Jd2 (cs:=[.slice ak x35.1.Next.length aj,.slice al x35.1.Pairs.length am]) I100 Z100 R R R<|haE f70.cells)<|Jj1 (κ:=K65) 10 (vc:=[.slice ak x35.1.Next.length aj,.slice al x35.1.Pairs.length am]) R R R R R R R Z100 R R (f61.stp S66 R R) R λw178 S179 f180=>Tv<|Jo<|Jz<|Jp<|Jf3 R ?_
 have hw47:t0 .i64 (v7+1)=v7+1:=wr1 hj47 (Jm2 hc47) hN47
 rw[hw47]
 have hc47:=Jm2 hc47
 cases h
 exact Jz1 λa ha=>⟨k,_,Ja3 _,⟨(λb=>ren [(12,9),(13,11)]<|K65 b),v7+1,(x35.1.Next,x35.1.Pairs),ak,aj,al,am,R,(Jy2 ((T3 S58 S66 S179).wk R) [(12,9),(13,11)] R),((f68.stp S179 R R).map (ren [(12,9),(13,11)]) R R),((f69.stp S179 R R).map (ren [(12,9),(13,11)]) R R),(f180.map (ren [(12,9),(13,11)]) R R),by omega,by omega,hk63⟩,(ha.mm R)⟩
 refine JT λh=>Jx R<|Je [2,1,2] R<|Jf R (bJ (parts:=[]) (cells:=[.slice none 0 0,.slice none 0 0]) R R (by kernel_rfl))<|Jj1 (κ:=K65) 3 (vc:=[.slice none 0 0,.slice none 0 0]) R R R R R R R Z100 R R (f8.stp (T8 S15 S29 S34 S38 S42 S45 S58 S66) R R) R λw173 S174 f175=>Tv<|Jb 1 R<|Ju<|Jw<|Ja1<|Jw<|Jw ?_
 cases h
 obtain rfl:=Option.some.inj hk63
 have h:=yL hK48
 refine Ja1<|Jq2<|Jw<|Ja2 (l:=[.cell 4 100,.tmp 5]) V68 (bL R f175 I100 Z100 R<|Jp2 R R) R ?_
 cases h
 exact⟨K65,none,0,none,0,R,(hE.stp (T11 S3 S7 S15 S29 S34 S38 S42 S45 S58 S66 S174) R R),Ow.nil,Ow.nil⟩
 rintro _ w50 ⟨K51,s3,ae,ai,af,ah,rfl,S52,f53,f54,f55,rfl⟩
 have h:=yI hK48
 refine Jp<|Je [1,1,2] R<|Jl tv R R R R (Jd2 (cs:=[.slice ae s3.1.length ai,.slice af s3.2.length ah]) I100 Z100 R R R<|haE f55.cells)<|Jj1 (κ:=K51) 3 (vc:=[.slice ae s3.1.length ai,.slice af s3.2.length ah]) R R R R R R R Z100 R R (f8.stp (T7 S15 S29 S34 S38 S42 S45 S52) R R) R λw184 S185 f186=>Tv<|Jb 1 R<|Ju<|Ja2 (l:=[.cell 4 100,.tmp 5]) V68 (bL R f186 I100 Z100 R<|Jp2 R R) R ?_
 cases h
 exact⟨(λb=>ren [(9,2),(11,3)]<|K51 b),ae,ai,af,ah,R,((hE.stp (T10 S3 S7 S15 S29 S34 S38 S42 S45 S52 S185) R R).map (ren [(9,2),(11,3)]) R R),((f53.stp S185 R R).map (ren [(9,2),(11,3)]) R R),((f54.stp S185 R R).map (ren [(9,2),(11,3)]) R R)⟩
 refine JT λh=>Jx R<|Je [2,1,2] R<|Jf R (bJ (parts:=[]) (cells:=[.slice none 0 0,.slice none 0 0]) R R (by kernel_rfl))<|Jj1 (κ:=K14) 3 (vc:=[.slice none 0 0,.slice none 0 0]) R R R R R R R Z100 R R (f8.stp S15 R R) R λw20 S21 f22=>Tv<|Jb 1 R<|Ju<|Jw<|Ja2 (l:=[.cell 4 100,.tmp 5]) V68 (bL R f22 I100 Z100 R<|Jp2 R R) R ?_
 cases h
 exact⟨K14,none,0,none,0,R,(hE.stp (T4 S3 S7 S15 S21) R R),Ow.nil,Ow.nil⟩
theorem kq {aj af ah ae ai ak}{p0:Parity}{a1 u1}{p1:(List Int)}(g0_0_0:Rd (Rp.int .i64) κ w 0 aj af p0.Arena.Owner) (g0_0_1:Rd (Rp.sl (Rp.int .i64)) κ w 0 ah ae p0.Arena.Next) (g0_1:Rd (Rp.int .i64) κ w 0 ai ak p0.Prio) (g1:Rd (Rp.int .i64) κ w 0 a1 u1 p1){r:Answer×Bool}(h:jy p0 p1=some r):Ret Tryz.prog 126 [.agg #[.slice aj p0.Arena.Owner.length af,.slice ah p0.Arena.Next.length ae,.slice ai p0.Prio.length ak],.slice a1 p1.length u1] w (λv w'=>∃(κ':Col) (ra0:Option Addr) (ru0:Nat) (ra1:Option Addr) (ru1:Nat),v= .tuple #[.agg #[.slice ra0 r.1.Won.length ru0,.slice ra1 r.1.Plan.length ru1],.bool r.2]/\Ent κ w κ' w'/\Oc E6 2 κ' w' 2 ra0 ru0 r.1.Won/\Oc E6 2 κ' w' 3 ra1 ru1 r.1.Plan):=by
 unfold jy at h
 refine Jk3 κ F126 R N126 R λhE=>Je [1,1,2] R<|Jf1 (κ:=κ) 2 R R R R R R R λb2 w1 K2 S3 f4=>Tv<|Jg1 (κ:=K2) 3 R R R R R X113 R λb4 w5 K6 S7 f8=>Tv<|Jb 1 R<|Jq<|Je [1,2,1,2] R ?_
 have f9:=f4.stp S7 R R
 refine Jl tv R R R R (Jd2 (cs:=[.slice aj p0.Arena.Owner.length af,.slice ah p0.Arena.Next.length ae,.slice ai p0.Prio.length ak]) I108 Z108 R R R<|haE f9.cells)<|Jn 1 R<|Ob h λx15 hx15 h=>?_
 have f10:=g0_0_0.stp (S3.tr S7) R R
 have f11:=g0_0_1.stp (S3.tr S7) R R
 have f12:=g0_1.stp (S3.tr S7) R R
 have f13:=g1.stp (S3.tr S7) R R
 refine Jh R R R C173 (qb (κ:=Mk K6) (p0:=p0) (Ji3 f10) (Ji3 f11) (Ji3 f12) (Ji3 f13) hx15) ?_
 rintro _ w14 ⟨k15,rfl,e16⟩
 obtain⟨K17,S18,m19⟩:=Ji e16 4 R
 refine Tv<|Jb 1 R ?_
 revert h
 cases ht21:(!x15)
 refine JF λh=>Jy R<|Js<|Jp<|Je [1,1,2] R ?_
 have f27:=f9.stp S18 R R
 refine Jl tv R R R R (Jd2 (cs:=[.slice aj p0.Arena.Owner.length af,.slice ah p0.Arena.Next.length ae,.slice ai p0.Prio.length ak]) I108 Z108 R R R<|haE f27.cells)<|Ob h λx19 hx19 h=>?_
 have f28:=f10.stp S18 R R
 have f29:=f11.stp S18 R R
 have f30:=f12.stp S18 R R
 refine Jh R R R C174 (mP (κ:=Mk K17) (p0:=p0) (Ji3 f28) (Ji3 f29) (Ji3 f30) hx19) ?_
 rintro _ w31 ⟨k32,ab,aa,rfl,e33,f34⟩
 obtain⟨K35,S36,m37⟩:=Ji e33 6 R
 refine Tv<|?_
 have f39:=f34.mx (bI _) m37 R (R:6+2=8)
 refine Jb 1 R<|Je [1,1,1,1] R ?_
 have f40:=f27.stp S36 R R
 refine Jl tv R R R R (Jd2 (cs:=[.slice aj p0.Arena.Owner.length af,.slice ah p0.Arena.Next.length ae,.slice ai p0.Prio.length ak]) I108 Z108 R R R<|haE f40.cells)<|Ob h λx21 hx21 h=>?_
 have f41:=f28.stp S36 R R
 refine Jh R R R C175 (qt (κ:=λb=>mp [] 1<|K35 b) (p0:=p0) (Jl2 f41 (mp [] 1) R R) (Jl2 (f29.stp S36 R R) (mp [] 1) R R) (Jl2 (f30.stp S36 R R) (mp [] 1) R R) hx21) ?_
 rintro _ w44 ⟨k45,ay,aA,ar,ax,au,av,az,aw,ad,ac,rfl,e46,f47,f48,f49,f50,f51⟩
 obtain⟨K52,S53,m54,z55⟩:=Jj e46 9 R
 refine Tv<|Jg1 (κ:=K52) 16 R R R R R X191 R λb7 w61 K62 S63 f64=>Tv<|Jj1 (κ:=K62) 16 (vc:=[.slice ay x21.owner.length aA,.slice ar x21.prio.length ax,.slice au x21.next.length av,.slice az x21.prev.length aw,.slice ad x21.pick.length ac]) R R R R R R R Z191 R R f64 R λw65 S66 f67=>Tv<|Jd<|Jq<|Je3 R ?_
 have hN68:(p1.length:Int)<=9223372036854775807:=f13.len_le
 refine Ob h λq2 hq70 hK69=>?_
 clear h
 refine Jx1 (λL w'=>∃κ',∃s3:(List Int),L=[(2,.pointer (some ⟨b2,0,none⟩)),(4,.pointer (some ⟨b4,0,none⟩)),(6,.slice ab x19.length aa),(7,.pointer (some ⟨b7,0,none⟩))]/\Stp [15] K62 w65 κ' w'/\Oc E6 2 κ' w' 15 ad ac s3/\x21.pick.length=s3.length/\q2=xe s3) ?_ ?_
 refine Jv<|Jy1 (λk L w'=>∃κ' v8,∃s1:(List Int),L=[(1,.slice a1 p1.length u1),(2,.pointer (some ⟨b2,0,none⟩)),(4,.pointer (some ⟨b4,0,none⟩)),(6,.slice ab x19.length aa),(7,.pointer (some ⟨b7,0,none⟩)),(8,vi v8)]/\Stp [15] K62 w65 κ' w'/\Oc E6 2 κ' w' 15 ad ac s1/\x21.pick.length=s1.length/\0<=v8/\Int.toNat ((p1.length:Int)-v8)=k/\cntM (gi p0 p1 x19) k v8 s1=some q2) ⟨_,_,⟨K62,0,x21.pick,R,Jj3,((f51.mx (bI _) m54 R (R:9+6=15)).stp (S63.tr S66) R R),R,(by decide),(by simp),hq70⟩,(KM R)⟩ ?_
 rintro k _ w76 ⟨K77,v8,s1,rfl,S78,f79,hn80,hj68,hJ68,h⟩
 rcases k with _ | k
 have hk82:=h;obtain⟨o68,h⟩:=bP (xe (Sum.inl s1):(Answer×Bool)⊕(((List Int))⊕((List Int))))
 have hc68:decide (v8<(p1.length:Int))=false:=Jo2 (by omega)
 refine Jq<|Jg3 [2,2,2,2] 2 R<|Jn3 R U29 R R<|Jb 1 R<|Jw2 R hc68<|Jc1<|Jt<|Jt ?_
 cases h
 have h:=hk82
 refine Jb1 ?_
 cases h
 exact Jw1 _ ⟨K77,s1,R,S78.wk R,f79,hn80,R⟩<|KM R
 obtain⟨o68,h,hk82⟩:=BI h;unfold gi at h
 have hc68:decide (v8<(p1.length:Int))=true:=Jn2 (by omega)
 refine Jq<|Jg3 [2,2,2,2] 2 R<|Jn3 R U29 R R<|Jb 1 R<|Jv2 R hc68<|Js<|Jp<|Jq<|Jv<|Jq<|Jq<|Js1 (κ:=K77) [0,2,8] none [(0,2),(1,2),(2,2),(3,0),(4,2),(5,2),(6,2),(7,2),(8,2),(10,2),(11,2),(13,2),(9,0),(12,0),(14,2),(15,0),(16,2),(17,2)] [] (by kernel_rfl) (by kernel_rfl) λw84 S83=>Jn 2 R<|Ob h λx30 hx30 h=>Jc3 R f13 hx30 U29 Z2 ?_
 have f85:=f13.stp (T7 S18 S36 S53 S63 S66 S78 S83) R R
 refine Jg R (Jc2 I2 R R<|hvC (f85.gInt hx30) R)<|Jn 2 R<|Ob h λp45 h hK86=>Ju1 [(6,2),(7,2),(8,2),(10,2),(11,2),(13,2),(9,0),(12,0),(14,2),(15,0),(16,2),(17,2)] [] (λL w'=>L=[(1,.slice a1 p1.length u1),(2,.pointer (some ⟨b2,0,none⟩)),(4,.pointer (some ⟨b4,0,none⟩)),(6,.slice ab x19.length aa),(7,.pointer (some ⟨b7,0,none⟩)),(8,vi v8),(45,.bool p45)]/\∃κ',Stp [] K77 w84 κ' w') (Cl.refl _ _ _) ?_ ?_
 revert h
 cases ht87:(x30 !=(-1))
 refine JF λh=>Jn 6 R<|Je1 R R R R<|Je1 R R R R<|Jn 1 R<|Je1 R R R R<|Jn 2 R ?_
 cases h
 exact Jv1 _ (Cl.refl _ _ _) ⟨R,_,Jj3⟩<|KM R
 have S001:=(T5 S53 S63 S66 S78 S83)
 refine JT λh=>Jn 2 R<|Ob h λx36 hx36 h=>Jc3 R f39.rdc hx36 U29 Z2<|Jd3 R U108 R Z104<|Jd3 R U104 R Z29<|Jn 1 R<|Jg R (Jc2 I2 R R<|hvC ((f39.stp S001 R R).rdc.gInt hx36) R)<|Jg R (Jc2 I29 R R<|hvC ((f40.stp S001 R R).ld 0 R R) R)<|Ob h λx42 hx42 h=>Jc3 R f41 hx42 U29 Z2<|Jg R (Jc2 I2 R R<|hvC ((f41.stp S001 R R).gInt hx42) R)<|Jn 2 R ?_
 cases h
 exact Jv1 _ (Cl.refl _ _ _) ⟨R,_,Jj3⟩<|KM R
 rintro _ w91 _ ⟨rfl,K92,S93⟩
 have h:=hK86
 refine Jt1<|Jd ?_
 revert h
 cases ht94:p45
 refine JF λh=>Jy R<|Js<|Jp<|Js1 (κ:=K92) [0,16] none [(0,2),(2,2),(3,2),(4,2),(5,2),(1,0),(6,0),(7,2),(8,1)] [] (by kernel_rfl) (by kernel_rfl) λw101 S100=>Jd3 R U191 R Z29<|Jn 3 R<|Ob h λx52 hx52 h=>Jc3 R f85 hx52 U29 Z2<|Jg R (Jc2 I29 R R<|hvC ((f67.stp (T4 S78 S83 S93 S100) R R).ld 4 R R) R)<|Jg R (Jc2 I2 R R<|hvC ((f85.stp (S93.tr S100) R R).gInt hx52) R)<|Ob h λx54 hx54 h=>Jf R (Jf2 f79.rdc hx54 U29 Z2 R R hn80 R)<|Ob h λy219 hy219 h=>Jk1 (κ:=K92) (E:=E6) 15 [] R R R R R R R R Z2 R R R R (f79.stp (T3 S83 S93 S100) R R) hy219 λw105 K106 S107 f108=>⟨(S107.cl R),?_⟩
 have hn109:x21.pick.length=y219.length:=hn80.trans (Jt2 hy219).2.2.2.symm
 refine Jt1<|Jo<|Jz<|Jp<|Jf3 R ?_
 have hw68:t0 .i64 (v8+1)=v8+1:=wr1 hj68 (Jm2 hc68) hN68
 rw[hw68]
 have hc68:=Jm2 hc68
 cases h
 exact Jz1 λa ha=>⟨k,_,Ja3 _,⟨K106,v8+1,y219,R,(T5 S78 S83 S93 S100 S107).wk R,f108,hn109,by omega,by omega,hk82⟩,(ha.mm R)⟩
 refine JT λh=>Jx R<|Je [2,1,2] R<|Jf R (bJ (parts:=[]) (cells:=[.slice none 0 0,.slice none 0 0]) R R (by kernel_rfl))<|Jj1 (κ:=K92) 3 (vc:=[.slice none 0 0,.slice none 0 0]) R R R R R R R Z113 R R (f8.stp (T8 S18 S36 S53 S63 S66 S78 S83 S93) R R) R λw96 S97 f98=>Tv<|Jb 1 R<|Ju<|Jw<|Ja1<|Jw<|Jw ?_
 cases h
 obtain rfl:=Option.some.inj hk82
 have h:=yL hK69
 refine Ja1<|Jq2<|Jw<|Ja2 (l:=[.cell 4 113,.tmp 5]) V126 (bL R f98 I113 Z113 R<|Jp2 R R) R ?_
 cases h
 exact⟨K92,none,0,none,0,R,(hE.stp (T11 S3 S7 S18 S36 S53 S63 S66 S78 S83 S93 S97) R R),Ow.nil,Ow.nil⟩
 rintro _ w71 ⟨K72,s3,rfl,S73,f74,hn75,rfl⟩
 have h:=yI hK69
 refine Jp<|Jg3 [2,1,2] 1 R<|Ob h λx56 hx56 h=>?_
 have f110:=f39.stp (T4 S53 S63 S66 S73) R R
 refine Jh R R R C176 (mC (κ:=Mk K72) (Ji3 f110.rdc) hx56) ?_
 rintro _ w111 ⟨k112,an,ao,rfl,e113,f114⟩
 obtain⟨K115,S116,m117⟩:=Ji e113 17 R
 refine Tv<|Jb 1 R<|Jg3 [2,1,2] 1 R<|Ob h λx58 hx58 h=>?_
 have f120:=f110.stp S116 R R
 refine Jh R R R C176 (mC (κ:=Mk K115) (Ji3 f120.rdc) hx58) ?_
 rintro _ w121 ⟨k122,al,am,rfl,e123,f124⟩
 obtain⟨K125,S126,m127⟩:=Ji e123 20 R
 refine Tv<|Jb 1 R<|Jq<|Je3 R ?_
 obtain⟨K132,S133,z134⟩:=ea K125 w121 19
 obtain⟨K138,S139,z140⟩:=ea K132 w121 22
 have hN142:(x19.length:Int)<=9223372036854775807:=f120.len_le
 refine Ob h λq5 hq144 hK143=>?_
 clear h
 refine Jx1 (λL w'=>∃κ',∃s6:(List Int),L=[(4,.pointer (some ⟨b4,0,none⟩)),(6,.slice ab x19.length aa),(7,.pointer (some ⟨b7,0,none⟩))]/\Stp [15,25] K138 w121 κ' w'/\Oc E6 2 κ' w' 15 ad ac s6/\x21.pick.length=s6.length/\q5=xe s6) ?_ ?_
 refine Jv<|Jy1 (λk L w'=>∃κ' v11,∃s4:(List Int),L=[(2,.pointer (some ⟨b2,0,none⟩)),(4,.pointer (some ⟨b4,0,none⟩)),(6,.slice ab x19.length aa),(7,.pointer (some ⟨b7,0,none⟩)),(9,.slice an x56.length ao),(10,.slice al x58.length am),(11,vi v11)]/\Stp [15,25] K138 w121 κ' w'/\Oc E6 2 κ' w' 15 ad ac s4/\x21.pick.length=s4.length/\0<=v11/\Int.toNat ((x19.length:Int)-v11)=k/\cntM (gk p0 x19 x21 x56 x58) k v11 s4=some q5) ⟨_,_,⟨K138,0,s3,R,Jj3,(f74.stp (T4 S116 S126 S133 S139) R R),hn75,(by decide),(by simp),hq144⟩,(KM R)⟩ ?_
 rintro k _ w150 ⟨K151,v11,s4,rfl,S152,f153,hn154,hj142,hJ142,h⟩
 rcases k with _ | k
 have hk156:=h;obtain⟨o142,h⟩:=bP (xe (Sum.inl s4):(Answer×Bool)⊕(((List Int))⊕((List Int))))
 have hc142:decide (v11<(x19.length:Int))=false:=Jo2 (by omega)
 refine Jq<|Jg3 [2,2,2,2] 2 R<|Jn3 R U29 R R<|Jb 1 R<|Jw2 R hc142<|Jc1<|Jt<|Jt ?_
 cases h
 have h:=hk156
 refine Jb1 ?_
 cases h
 exact Jw1 _ ⟨K151,s4,R,S152.wk R,f153,hn154,R⟩<|KM R
 obtain⟨o142,h,hk156⟩:=BI h;unfold gk at h
 have hc142:decide (v11<(x19.length:Int))=true:=Jn2 (by omega)
 refine Jq<|Jg3 [2,2,2,2] 2 R<|Jn3 R U29 R R<|Jb 1 R<|Jv2 R hc142<|Js<|Jp<|Jq<|Jv<|Jq<|Jq<|Js1 (κ:=K151) [0,2,8,15,16] none [(0,2),(2,2),(1,0),(3,2),(4,0),(5,2),(6,2),(7,2),(8,2),(9,2),(11,2),(12,2),(14,2),(10,0),(13,0),(15,2),(16,0),(17,2),(18,2)] [] (by kernel_rfl) (by kernel_rfl) λw158 S157=>Jd3 R U191 R Z29<|Jn 1 R ?_
 have f159:=f67.stp (T7 S73 S116 S126 S133 S139 S152 S157) R R
 refine Jg R (Jc2 I29 R R<|hvC (f159.ld 4 R R) R)<|Ob h λx68 hx68 h=>Jf R (Jf2 f153.rdc hx68 U29 Z2 R R hn154 R) ?_
 have f160:=f153.stp S157 R R
 refine Jg R (Jc2 I2 R R<|hvC (f160.rdc.gInt hx68) R)<|Jn 2 R<|Ob h λp83 h hK161=>Ju1 [(7,2),(8,2),(9,2),(11,2),(12,2),(14,2),(10,0),(13,0),(15,2),(16,0),(17,2),(18,2)] [] (λL w'=>L=[(2,.pointer (some ⟨b2,0,none⟩)),(4,.pointer (some ⟨b4,0,none⟩)),(6,.slice ab x19.length aa),(7,.pointer (some ⟨b7,0,none⟩)),(9,.slice an x56.length ao),(10,.slice al x58.length am),(11,vi v11),(83,.bool p83)]/\∃κ',Stp [] K151 w158 κ' w') (Cl.refl _ _ _) ?_ ?_
 revert h
 cases ht162:decide (0<=x68)
 have S002:=(T10 S53 S63 S66 S73 S116 S126 S133 S139 S152 S157)
 refine JF λh=>Jn 2 R<|Ob h λx74 hx74 h=>Jc3 R f120.rdc hx74 U29 Z2<|Jd3 R U108 R Z104<|Jd3 R U104 R Z29<|Jn 1 R<|Jg R (Jc2 I2 R R<|hvC ((f120.stp (T5 S126 S133 S139 S152 S157) R R).rdc.gInt hx74) R)<|Jg R (Jc2 I29 R R<|hvC ((f40.stp S002 R R).ld 0 R R) R)<|Ob h λx80 hx80 h=>Jc3 R f41 hx80 U29 Z2<|Jg R (Jc2 I2 R R<|hvC ((f41.stp S002 R R).gInt hx80) R)<|Jn 2 R ?_
 cases h
 exact Jv1 _ (Cl.refl _ _ _) ⟨R,_,Jj3⟩<|KM R
 refine JT λh=>Jn 6 R<|Je1 R R R R<|Je1 R R R R<|Jn 1 R<|Je1 R R R R<|Jn 2 R ?_
 cases h
 exact Jv1 _ (Cl.refl _ _ _) ⟨R,_,Jj3⟩<|KM R
 rintro _ w166 _ ⟨rfl,K167,S168⟩
 have h:=hK161
 refine Jt1<|Jd ?_
 revert h
 cases ht169:p83
 refine JF λh=>Jy R<|Js<|Jp<|Je3 R<|Jq<|Jg3 [2,2,2,1,2] 2 R<|Ob h λx87 hx87 h=>Jc3 R f120.rdc hx87 U29 Z2<|Jb3 R I2 ((f120.stp (T6 S126 S133 S139 S152 S157 S168) R R).rdc.gInt hx87)<|Jb 1 R<|Ob h λq7 h hK172=>Jx1 (λL w'=>∃κ' aq ap,L=[(2,.pointer (some ⟨b2,0,none⟩)),(4,.pointer (some ⟨b4,0,none⟩)),(6,.slice ab x19.length aa),(7,.pointer (some ⟨b7,0,none⟩)),(9,.slice an x56.length ao),(10,.slice al x58.length am),(11,vi v11),(12,.slice aq q7.length ap)]/\Stp [] K167 w166 κ' w'/\Rd Rp.bool κ' w' 0 aq ap q7) ?_ ?_
 revert h
 cases ht177:(x87==1)
 refine JF λh=>Jy R<|Js ?_
 cases h
 exact Jw1 _ ⟨K167,an,ao,R,Jj3,((Sl.st z134 ((f114.mx da m117 R (R:17+2=19)).stp S126 R R).rdc).stp (T4 S139 S152 S157 S168) R R)⟩<|KM R
 refine JT λh=>Jx R<|Jf3 R ?_
 cases h
 exact Jw1 _ ⟨K167,al,am,R,Jj3,((Sl.st z140 ((f124.mx da m127 R (R:20+2=22)).stp S133 R R).rdc).stp (T3 S152 S157 S168) R R)⟩<|KM R
 rintro _ w173 ⟨K174,aq,ap,rfl,S175,f176⟩
 have h:=hK172
 refine Jp<|Js1 (κ:=K174) [16] none [(0,2),(2,2),(4,2),(5,2),(1,0),(3,0),(6,1),(7,2),(8,1)] [] (by kernel_rfl) (by kernel_rfl) λw181 S180=>Jd3 R U191 R Z29<|Jn 3 R ?_
 have f182:=f159.stp (T3 S168 S175 S180) R R
 have S003:=(T12 S63 S66 S73 S116 S126 S133 S139 S152 S157 S168 S175 S180)
 refine Jg R (Jc2 I29 R R<|hvC (f182.ld 4 R R) R)<|Jg R (Jd2 (cs:=[.slice ay x21.owner.length aA,.slice ar x21.prio.length ax,.slice au x21.next.length av,.slice az x21.prev.length aw,.slice ad x21.pick.length ac]) I191 Z191 R R R<|haC f182.cells R)<|Ob h λx97 hx97 h=>Jh R R R C177 (Ret.cast (by simp only[hn154,List.cons_append,List.nil_append])<|sB (κ:=λb=>mp [(15,2)] 0<|K174 b) (p0:=(⟨x21.owner,x21.prio,x21.next,x21.prev,s4⟩:l7Game)) (Jl2 ((f47.mx z55).stp S003 R R) (mp [(15,2)] 0) R R) (Jl2 ((f48.mx z55).stp S003 R R) (mp [(15,2)] 0) R R) (Jl2 ((f49.mx z55).stp S003 R R) (mp [(15,2)] 0) R R) (Jl2 ((f50.mx (cm (bI _) _) m54 R (R:9+5=14)).stp S003 R R).rdc (mp [(15,2)] 0) R R) ((f160.stp (T3 S168 S175 S180) R R).map (mp [(15,2)] 0) R R) (Jl2 (f176.stp S180 R R) (mp [(15,2)] 0) R R) hx97) ?_
 rintro _ w189 ⟨k190,rfl,e191,f192,hn193⟩
 obtain⟨K194,S195,m196⟩:=Ji e191 23 R
 refine⟨(S195.cl R),?_⟩
 have f198:=f192.mx (bI _) m196 R (R:23+2=25)
 refine Ob h λx98 hx98 h=>Jf R (Jf2 f198.rdc hx98 U29 Z2 R R (hn154.trans hn193) R)<|Ob h λy228 hy228 h=>Jk1 (κ:=K194) (E:=E6) 25 [] R R R R R R R R Z2 R R R R f198 hy228 λw199 K200 S201 f202=>⟨((S195.tr S201).cl R),?_⟩
 have hn203:x21.pick.length=y228.length:=(hn154.trans hn193).trans (Jt2 hy228).2.2.2.symm
 refine Jt1<|Jo<|Jz<|Jp<|Jf3 R ?_
 have hw142:t0 .i64 (v11+1)=v11+1:=wr1 hj142 (Jm2 hc142) hN142
 rw[hw142]
 have hc142:=Jm2 hc142
 cases h
 exact Jz1 λa ha=>⟨k,_,Ja3 _,⟨(λb=>ren [(25,15)]<|K200 b),v11+1,y228,R,(Jy2 ((T7 S152 S157 S168 S175 S180 S195 S201).wk R) [(25,15)] R),(f202.map (ren [(25,15)]) R R),hn203,by omega,by omega,hk156⟩,(ha.mm R)⟩
 refine JT λh=>Jx R<|Jc1<|Jt<|Jb1<|Jp<|Jf3 R ?_
 have hw142:t0 .i64 (v11+1)=v11+1:=wr1 hj142 (Jm2 hc142) hN142
 rw[hw142]
 have hc142:=Jm2 hc142
 cases h
 exact Jz1 λa ha=>⟨k,_,Ja3 _,⟨K167,v11+1,s4,R,(T3 S152 S157 S168).wk R,(f160.stp S168 R R),hn154,by omega,by omega,hk156⟩,(ha.mm R)⟩
 rintro _ w145 ⟨K146,s6,rfl,S147,f148,hn149,rfl⟩
 have h:=yI hK143
 refine Jp<|Jg3 [2,2,1,2,1,2] 1 R<|Jd3 R U191 R Z29<|Jb3 R I29 ((f67.stp (T6 S73 S116 S126 S133 S139 S147) R R).ld 4 R R)<|Jf R (bJ (parts:=[(0,.tmp 99),(1,.tmp 101)]) (cells:=[.slice ab x19.length aa,.slice ad x21.pick.length ac]) R R (by kernel_rfl))<|Jj1 (κ:=K146) 3 (vc:=[.slice ab x19.length aa,.slice ad x21.pick.length ac]) R R R R R R R Z113 R R (f8.stp (T11 S18 S36 S53 S63 S66 S73 S116 S126 S133 S139 S147) R R) R λw206 S207 f208=>Tv<|Jb 1 R<|Ju<|Ja2 (l:=[.cell 4 113,.tmp 5]) V126 (bL R f208 I113 Z113 R<|Jp2 R R) R ?_
 cases h
 exact⟨(λb=>ren [(8,2),(15,3)]<|K146 b),ab,aa,ad,ac,(by simp only[hn149]),((hE.stp (T14 S3 S7 S18 S36 S53 S63 S66 S73 S116 S126 S133 S139 S147 S207) R R).map (ren [(8,2),(15,3)]) R R),((f120.stp (T5 S126 S133 S139 S147 S207) R R).map (ren [(8,2),(15,3)]) R R),((f148.stp S207 R R).map (ren [(8,2),(15,3)]) R R)⟩
 refine JT λh=>Jx R<|Je [2,1,2] R<|Jf R (bJ (parts:=[]) (cells:=[.slice none 0 0,.slice none 0 0]) R R (by kernel_rfl))<|Jj1 (κ:=K17) 3 (vc:=[.slice none 0 0,.slice none 0 0]) R R R R R R R Z113 R R (f8.stp S18 R R) R λw23 S24 f25=>Tv<|Jb 1 R<|Ju<|Jw<|Ja2 (l:=[.cell 4 113,.tmp 5]) V126 (bL R f25 I113 Z113 R<|Jp2 R R) R ?_
 cases h
 exact⟨K17,none,0,none,0,R,(hE.stp (T4 S3 S7 S18 S24) R R),Ow.nil,Ow.nil⟩
theorem rY {aj am an ak ao al}{p0:Parity}(g0_0_0:Rd (Rp.int .i64) κ w 0 aj am p0.Arena.Owner) (g0_0_1:Rd (Rp.sl (Rp.int .i64)) κ w 0 an ak p0.Arena.Next) (g0_1:Rd (Rp.int .i64) κ w 0 ao al p0.Prio){r:Answer}(h:kP p0=some r):Ret Tryz.prog 71 [.agg #[.slice aj p0.Arena.Owner.length am,.slice an p0.Arena.Next.length ak,.slice ao p0.Prio.length al]] w (λv w'=>∃(κ':Col) (ra0:Option Addr) (ru0:Nat) (ra1:Option Addr) (ru1:Nat),v= .agg #[.slice ra0 r.Won.length ru0,.slice ra1 r.Plan.length ru1]/\Ent κ w κ' w'/\Oc E6 2 κ' w' 2 ra0 ru0 r.Won/\Oc E6 2 κ' w' 3 ra1 ru1 r.Plan):=by
 unfold kP at h
 refine Jk3 κ F71 R N71 R λhE=>Je [1,1] R<|Jf1 (κ:=κ) 2 R R R R R R R λb1 w1 K2 S3 f4=>Tv<|Jg1 (κ:=K2) 3 R R R R R X113 R λb2 w5 K6 S7 f8=>Tv<|Jd<|Jq<|Je [1,1,2] R ?_
 have f9:=f4.stp S7 R R
 refine Jl tv R R R R (Jd2 (cs:=[.slice aj p0.Arena.Owner.length am,.slice an p0.Arena.Next.length ak,.slice ao p0.Prio.length al]) I108 Z108 R R R<|haE f9.cells)<|Ob h λx6 hx6 h=>?_
 have f10:=g0_0_0.stp (S3.tr S7) R R
 have f11:=g0_0_1.stp (S3.tr S7) R R
 have f12:=g0_1.stp (S3.tr S7) R R
 refine Jh R R R C125 (mF (κ:=Mk K6) (p0:=p0) (Ji3 f10) (Ji3 f11) (Ji3 f12) hx6) ?_
 rintro _ w13 ⟨k14,rfl,e15⟩
 obtain⟨K16,S17,m18⟩:=Ji e15 4 R
 refine Tv<|Jb 1 R ?_
 revert h
 cases ht20:(!x6)
 refine JF λh=>Jy R<|Js<|Jp<|Jq<|Ob h λx14 hx14 h=>Ob h λx15 hx15 h=>Jx1 (λL w'=>∃κ' b3 af ah ae ai,L=[(2,.pointer (some ⟨b2,0,none⟩)),(3,.pointer (some ⟨b3,0,none⟩))]/\Stp [6,9,11,12,13] K16 w13 κ' w'/\Oc E6 2 κ' w' 6 af ah x15.1.Won/\Oc E6 2 κ' w' 7 ae ai x15.1.Plan/\Bc κ' w' 8 b3 113 [.slice af x15.1.Won.length ah,.slice ae x15.1.Plan.length ai]) ?_ ?_
 refine WC.rxt (κ:=K16) [2] none (by kernel_rfl) λw33 S34=>Jq1 (fuel:=8) [(1,2),(0,0),(2,0),(3,2)] (by kernel_rfl) (by kernel_rfl) R<|Jd3 R U108 R Z29 ?_
 have f35:=f9.stp (S17.tr S34) R R
 refine Jg R (Jd2 (cs:=[.slice aj p0.Arena.Owner.length am,.slice an p0.Arena.Next.length ak,.slice ao p0.Prio.length al]) I108 Z108 R R R<|haC f35.cells R)<|Jg R (Jc2 I29 R R<|hvC (f35.ld 2 R R) R)<|Jn3 R U29 R R<|Jp1<|WA.fork2 (fuel:=7) 4 9 (by kernel_rfl) R ?_ ?_
 refine Jh R R R C127 (n8 (κ:=Mk K16) hx14) ?_
 rintro _ w36 ⟨k37,aq,ap,rfl,e38,f39⟩
 obtain⟨K40,S41,m42⟩:=Ji e38 6 R
 refine⟨(S41.cl R),?_⟩
 have f44:=f39.mx (bI _) m42 R (R:6+2=8)
 refine Jp1<|WA.fork2 (fuel:=6) 5 9 (by kernel_rfl) R ?_ ?_
 have S001:=(T3 S17 S34 S41)
 refine Jh R R R C126 (kq (κ:=Mk K40) (p0:=p0) (Ji3<|f10.stp S001 R R) (Ji3<|f11.stp S001 R R) (Ji3<|f12.stp S001 R R) (Ji3 f44.rdc) hx15) ?_
 rintro _ w48 ⟨k49,ad,ab,aa,ac,rfl,e50,f51,f52⟩
 obtain⟨K53,S54,m55⟩:=Ji e50 9 R
 exact⟨((S41.tr S54).cl R),Jp1<|Jq1 (fuel:=0) [(6,2),(7,2),(8,2),(9,1),(10,1),(11,2)] (by kernel_rfl) (by kernel_rfl) R<|Jn 3 R<|Jg1 (κ:=K53) 13 R R R R R X113 R λb3 w59 K60 S61 f62=>⟨((T3 S41 S54 S61).cl R),Jj1 (κ:=K60) 13 (vc:=[.slice ad x15.1.Won.length ab,.slice aa x15.1.Plan.length ac]) R R R R R R R Z113 R R f62 R λw63 S64 f65=>⟨((T4 S41 S54 S61 S64).cl R),Jn 1 R<|Jp1<|Jr1 [] (by kernel_rfl) (by kernel_rfl) R<|Jo<|Jw1 _ ⟨(λb=>ren [(11,6),(12,7),(13,8)]<|K60 b),b3,ad,ab,aa,ac,R,(Jy2 ((T5 S34 S41 S54 S61 S64).wk R) [(11,6),(12,7),(13,8)] R),(((f51.mx (bI _) m55 R (R:9+2=11)).stp (S61.tr S64) R R).map (ren [(11,6),(12,7),(13,8)]) R R),(((f52.mx (bI _) m55 R (R:9+3=12)).stp (S61.tr S64) R R).map (ren [(11,6),(12,7),(13,8)]) R R),(f65.map (ren [(11,6),(12,7),(13,8)]) R R)⟩<|KM R⟩⟩⟩
 have S002:=(T3 S17 S34 S41)
 refine Jg1 (κ:=K40) 9 R R R R R X113 R λb3 w68 K69 S70 f71=>⟨((S41.tr S70).cl R),Jp1<|Jq1 (fuel:=0) [(5,1),(6,2),(7,2),(8,2),(10,1),(11,2)] (by kernel_rfl) (by kernel_rfl) R<|Jh R R R C126 (kq (κ:=Mk K69) (p0:=p0) (Ji3<|f10.stp (S002.tr S70) R R) (Ji3<|f11.stp (S002.tr S70) R R) (Ji3<|f12.stp (S002.tr S70) R R) (Ji3 (f44.stp S70 R R).rdc) hx15) ?_⟩
 rintro _ w76 ⟨k77,ad,ab,aa,ac,rfl,e78,f79,f80⟩
 obtain⟨K81,S82,m83⟩:=Ji e78 10 R
 exact⟨((T3 S41 S70 S82).cl R),Jn 3 R<|Jj1 (κ:=K81) 9 (vc:=[.slice ad x15.1.Won.length ab,.slice aa x15.1.Plan.length ac]) R R R R R R R Z113 R R (f71.stp S82 R R) R λw88 S89 f90=>⟨((T4 S41 S70 S82 S89).cl R),Jn 1 R<|Jp1<|Jr1 [] (by kernel_rfl) (by kernel_rfl) R<|Jo<|Jw1 _ ⟨(λb=>ren [(12,6),(13,7),(9,8)]<|K81 b),b3,ad,ab,aa,ac,R,(Jy2 ((T5 S34 S41 S70 S82 S89).wk R) [(12,6),(13,7),(9,8)] R),(((f79.mx (bI _) m83 R (R:10+2=12)).stp S89 R R).map (ren [(12,6),(13,7),(9,8)]) R R),(((f80.mx (bI _) m83 R (R:10+3=13)).stp S89 R R).map (ren [(12,6),(13,7),(9,8)]) R R),(f90.map (ren [(12,6),(13,7),(9,8)]) R R)⟩<|KM R⟩⟩
 refine Jg1 (κ:=K16) 6 R R R R R X113 R λb3 w93 K94 S95 f96=>⟨(S95.cl R),Jp1<|Jq1 (fuel:=0) [(4,1),(5,1),(6,2),(7,2),(8,2),(10,1),(11,2)] (by kernel_rfl) (by kernel_rfl) R<|Jh R R R C127 (n8 (κ:=Mk K94) hx14) ?_⟩
 rintro _ w97 ⟨k98,aq,ap,rfl,e99,f100⟩
 obtain⟨K101,S102,m103⟩:=Ji e99 7 R
 have S003:=(T4 S17 S34 S95 S102)
 refine⟨((S95.tr S102).cl R),Jh R R R C126 (kq (κ:=Mk K101) (p0:=p0) (Ji3<|f10.stp S003 R R) (Ji3<|f11.stp S003 R R) (Ji3<|f12.stp S003 R R) (Ji3 (f100.mx (bI _) m103 R (R:7+2=9)).rdc) hx15) ?_⟩
 rintro _ w109 ⟨k110,ad,ab,aa,ac,rfl,e111,f112,f113⟩
 obtain⟨K114,S115,m116⟩:=Ji e111 10 R
 exact⟨((T3 S95 S102 S115).cl R),Jn 3 R<|Jj1 (κ:=K114) 6 (vc:=[.slice ad x15.1.Won.length ab,.slice aa x15.1.Plan.length ac]) R R R R R R R Z113 R R (f96.stp (S102.tr S115) R R) R λw121 S122 f123=>⟨((T4 S95 S102 S115 S122).cl R),Jn 1 R<|Jp1<|Jr1 [] (by kernel_rfl) (by kernel_rfl) R<|Jo<|Jw1 _ ⟨(λb=>ren [(12,6),(13,7),(6,8)]<|K114 b),b3,ad,ab,aa,ac,R,(Jy2 ((T5 S34 S95 S102 S115 S122).wk R) [(12,6),(13,7),(6,8)] R),(((f112.mx (bI _) m116 R (R:10+2=12)).stp S122 R R).map (ren [(12,6),(13,7),(6,8)]) R R),(((f113.mx (bI _) m116 R (R:10+3=13)).stp S122 R R).map (ren [(12,6),(13,7),(6,8)]) R R),(f123.map (ren [(12,6),(13,7),(6,8)]) R R)⟩<|KM R⟩⟩
 rintro _ w26 ⟨K27,b3,af,ah,ae,ai,rfl,S28,f30,f31,f32⟩
 refine Jp<|Je [1,1] R<|Jl tv R R R R (Jd2 (cs:=[.slice af x15.1.Won.length ah,.slice ae x15.1.Plan.length ai]) I113 Z113 R R R<|haE f32.cells)<|Jj1 (κ:=K27) 3 (vc:=[.slice af x15.1.Won.length ah,.slice ae x15.1.Plan.length ai]) R R R R R R R Z113 R R (f8.stp (S17.tr S28) R R) R λw127 S128 f129=>Tv<|Jd<|Ju<|Ja2 (l:=[.cell 2 113]) V71 (bL R f129 I113 Z113 R R) R ?_
 cases h
 exact⟨(λb=>ren [(6,2),(7,3)]<|K27 b),af,ah,ae,ai,R,((hE.stp (T5 S3 S7 S17 S28 S128) R R).map (ren [(6,2),(7,3)]) R R),((f30.stp S128 R R).map (ren [(6,2),(7,3)]) R R),((f31.stp S128 R R).map (ren [(6,2),(7,3)]) R R)⟩
 refine JT λh=>Jx R<|Je [2,1] R<|Jf R (bJ (parts:=[]) (cells:=[.slice none 0 0,.slice none 0 0]) R R (by kernel_rfl))<|Jj1 (κ:=K16) 3 (vc:=[.slice none 0 0,.slice none 0 0]) R R R R R R R Z113 R R (f8.stp S17 R R) R λw22 S23 f24=>Tv<|Jd<|Ju<|Jw<|Ja2 (l:=[.cell 2 113]) V71 (bL R f24 I113 Z113 R R) R ?_
 cases h
 exact⟨K16,none,0,none,0,R,(hE.stp (T4 S3 S7 S17 S23) R R),Ow.nil,Ow.nil⟩
theorem rv {p0:Sig}{aD az aE ax}{p1:Det}{aJ aM aN aI aK aL}{p2:Parity}{a3 u3}{p3:(List Place)}{a4 u4}{p4:(List Int)}(g1_0:Rd (Rp.sl (Rp.int .i64)) κ w 0 aD az p1.Next) (g1_1:Rd Pair.rp κ w 0 aE ax p1.Pairs) (g2_0_0:Rd (Rp.int .i64) κ w 0 aJ aM p2.Arena.Owner) (g2_0_1:Rd (Rp.sl (Rp.int .i64)) κ w 0 aN aI p2.Arena.Next) (g2_1:Rd (Rp.int .i64) κ w 0 aK aL p2.Prio) (g3:Rd Place.rp κ w 0 a3 u3 p3) (g4:Rd (Rp.int .i64) κ w 0 a4 u4 p4){r:Machine×Bool}(h:kD p0 p1 p2 p3 p4=some r):Ret Tryz.prog 89 [.agg #[vi p0.In,vi p0.Out],.agg #[.slice aD p1.Next.length az,.slice aE p1.Pairs.length ax],.agg #[.slice aJ p2.Arena.Owner.length aM,.slice aN p2.Arena.Next.length aI,.slice aK p2.Prio.length aL],.slice a3 p3.length u3,.slice a4 p4.length u4] w (λv w'=>∃(κ':Col) (ra0:Option Addr) (ru0:Nat) (ra1:Option Addr) (ru1:Nat),v= .tuple #[.agg #[.slice ra0 r.1.Next.length ru0,.slice ra1 r.1.Out.length ru1],.bool r.2]/\Ent κ w κ' w'/\Oc (Ep.own E6 2) 29 κ' w' 2 ra0 ru0 r.1.Next/\Oc (Ep.own E6 2) 29 κ' w' 3 ra1 ru1 r.1.Out):=by
 unfold kD at h
 refine Jk3 κ F89 R N89 R λhE=>Je [1,1,1,1,2] R<|Jf1 (κ:=κ) 2 R R R R R R R λb5 w1 K2 S3 f4=>Tv<|Jf1 (κ:=K2) 3 R R R R R R R λb6 w5 K6 S7 f8=>Tv<|Jf1 (κ:=K6) 4 R R R R R R R λb7 w9 K10 S11 f12=>Tv<|Jg1 (κ:=K10) 5 R R R R R X28 R λb10 w13 K14 S15 f16=>Tv<|Jb 1 R<|Je [1,2] R<|Jn1 (κ:=K14) (E:=E6) 6 [] (parts:=[(0,.const (vi 0))]) (cells:=[vi 0]) (xs:=([0]:List Int)) R R R R R R Y29 bG R R R R R R R R R R ⟨[vi 0],[],Zl K14 w13 [],Zl K14 w13 [],R,Zl.sp (l1:=[]) (l2:=[]) R,Zl.sr (l1:=[]) (l2:=[]),R,R⟩ λaW aY w17 K18 S19 f20=>Tv<|Jb 1 R<|Je [2,1,1] R<|Jf R (bJ (parts:=[]) (cells:=[.slice none 0 0,.slice none 0 0]) R R (by kernel_rfl))<|Jg1 (κ:=K18) 7 R R R R R X28 R λb13 w21 K22 S23 f24=>Tv<|Jj1 (κ:=K22) 7 (vc:=[.slice none 0 0,.slice none 0 0]) R R R R R R R Z28 R R f24 R λw25 S26 f27=>Tv<|Jd<|Jq<|Je3 R<|Ob h λq2 hq30 hK29=>?_
 clear h
 refine Jx1 (λL w'=>∃κ',∃s3:(List Int)×Int×(List<|List Int)×(List<|List Int),∃aP aQ ab ac aa ad,L=[(10,.pointer (some ⟨b10,0,none⟩)),(13,.pointer (some ⟨b13,0,none⟩))]/\Stp [6,7,8,9,10,11,12,13] K22 w25 κ' w'/\Oc E6 2 κ' w' 6 aP aQ s3.1/\Oc (Ep.own E6 2) 29 κ' w' 8 ab ac s3.2.2.1/\Oc (Ep.own E6 2) 29 κ' w' 9 aa ad s3.2.2.2/\Bc κ' w' 7 b13 28 [.slice ab s3.2.2.1.length ac,.slice aa s3.2.2.2.length ad]/\q2=xe s3) ?_ ?_
 refine Jv<|Jy1 (λk L w'=>∃κ',∃s1:(List Int)×Int×(List<|List Int)×(List<|List Int),∃ar ak aB aG ai af,L=[(3,.slice a3 p3.length u3),(4,.slice a4 p4.length u4),(5,.pointer (some ⟨b5,0,none⟩)),(6,.pointer (some ⟨b6,0,none⟩)),(7,.pointer (some ⟨b7,0,none⟩)),(10,.pointer (some ⟨b10,0,none⟩)),(12,.slice ar s1.1.length ak),(13,.pointer (some ⟨b13,0,none⟩)),(14,vi s1.2.1)]/\Stp [6,7,8,9,10,11,12,13] K22 w25 κ' w'/\Oc E6 2 κ' w' 6 ar ak s1.1/\Oc (Ep.own E6 2) 29 κ' w' 8 aB aG s1.2.2.1/\Oc (Ep.own E6 2) 29 κ' w' 9 ai af s1.2.2.2/\Bc κ' w' 7 b13 28 [.slice aB s1.2.2.1.length aG,.slice ai s1.2.2.2.length af]/\bZ (fE p0 p1 p2 p3 p4) k s1=some q2) ⟨_,_,⟨K22,((([0]:List Int):(List Int)),(0:Int),(([]:List (List Int)):(List<|List Int)),(([]:List (List Int)):(List<|List Int))),aW,aY,none,0,none,0,R,Jj3,(f20.stp (S23.tr S26) R R),Ow.nil,Ow.nil,f27,hq30⟩,(KM R)⟩ ?_
 rintro k _ w38 ⟨K39,s1,ar,ak,aB,aG,ai,af,rfl,S40,f41,f42,f43,f44,h⟩
 rcases k with _ | k
 cases h
 obtain⟨o28,h,hk46⟩:=BI h;unfold fE at h
 refine Jq<|Jg3 [2,2,2,2] 2 R<|Jn3 R U29 R R<|Jb 1 R ?_
 revert h
 cases ht47:decide (s1.2.1<(s1.1.length:Int))
 refine JF λh=>Jy R<|Jc1<|Jt<|Jt ?_
 cases h
 have h:=hk46
 refine Jb1 ?_
 cases h
 exact Jw1 _ ⟨K39,(s1.1,s1.2.1,s1.2.2.1,s1.2.2.2),ar,ak,aB,aG,ai,af,R,S40.wk R,f41,f42,f43,f44,R⟩<|KM R
 refine JT λh=>Jx R<|Js<|Jp<|Jq<|Jv<|Jg3 [2,2,2,2,1,2,2,1,2] 3 R<|Ob h λx31 hx31 h=>Jc3 R f41.rdc hx31 U29 Z2<|Jb3 R I2 (f41.rdc.gInt hx31)<|Ob h λx33 hx33 h=>Jc3 R g3 hx33 U109 Z116<|Jd3 R U116 R Z2 ?_
 have f48:=g3.stp (T8 S3 S7 S11 S15 S19 S23 S26 S40) R R
 obtain⟨cse49,hre49,hle49⟩:=(f48).gSt hx33
 obtain⟨ae49_0,ue49_0,rfl,fe49_0⟩:=Place.un hre49
 refine Jb3 R I2 (λw' hw'=>hle49 w' hw' 0 _ R)<|Jb 1 R<|Je [1,2] R<|Jo1 (κ:=K39) (E:=E6) 10 R R R R R Y29 bG R λba aV w50 K51 S52 f53=>Tv<|Jb 1 R<|Je [1,2] R<|Jo1 (κ:=K51) (E:=E6) 11 R R R R R Y29 bG R λbc aU w54 K55 S56 f57=>Tv<|Jb 1 R<|Jq<|Je3 R<|Ob h λq5 hq60 hK59=>?_
 clear h
 refine Jx1 (λL w'=>∃κ',∃s6:(List Int)×(List Int)×(List Int)×Int,∃aF av ae al ah ap,L=[(3,.slice a3 p3.length u3),(4,.slice a4 p4.length u4),(5,.pointer (some ⟨b5,0,none⟩)),(6,.pointer (some ⟨b6,0,none⟩)),(7,.pointer (some ⟨b7,0,none⟩)),(10,.pointer (some ⟨b10,0,none⟩)),(12,.slice aF s6.1.length av),(13,.pointer (some ⟨b13,0,none⟩)),(14,vi s1.2.1),(16,.slice ae s6.2.1.length al),(17,.slice ah s6.2.2.1.length ap)]/\Stp [6,10,11] K55 w54 κ' w'/\Oc E6 2 κ' w' 6 aF av s6.1/\Oc E6 2 κ' w' 10 ae al s6.2.1/\Oc E6 2 κ' w' 11 ah ap s6.2.2.1/\q5=xe s6) ?_ ?_
 refine Jv<|Jy1 (λk L w'=>∃κ',∃s4:(List Int)×(List Int)×(List Int)×Int,∃ao am aj aq an au,L=[(3,.slice a3 p3.length u3),(4,.slice a4 p4.length u4),(5,.pointer (some ⟨b5,0,none⟩)),(6,.pointer (some ⟨b6,0,none⟩)),(7,.pointer (some ⟨b7,0,none⟩)),(10,.pointer (some ⟨b10,0,none⟩)),(12,.slice ao s4.1.length am),(13,.pointer (some ⟨b13,0,none⟩)),(14,vi s1.2.1),(15,vi x33.At),(16,.slice aj s4.2.1.length aq),(17,.slice an s4.2.2.1.length au),(18,vi s4.2.2.2)]/\Stp [6,10,11] K55 w54 κ' w'/\Oc E6 2 κ' w' 6 ao am s4.1/\Oc E6 2 κ' w' 10 aj aq s4.2.1/\Oc E6 2 κ' w' 11 an au s4.2.2.1/\bZ (er p0 p1 p2 p3 p4 s1 x33) k s4=some q5) ⟨_,_,⟨K55,(s1.1,(([]:List Int):(List Int)),(([]:List Int):(List Int)),(0:Int)),ar,ak,ba,aV,bc,aU,R,Jj3,(f41.stp (S52.tr S56) R R),(f53.stp S56 R R),f57,hq60⟩,(KM R)⟩ ?_
 rintro k _ w67 ⟨K68,s4,ao,am,aj,aq,an,au,rfl,S69,f70,f71,f72,h⟩
 rcases k with _ | k
 cases h
 obtain⟨o58,h,hk75⟩:=BI h;unfold er at h
 refine Jq<|Jg3 [2,1,1,2] 1 R ?_
 have f76:=f4.stp (T10 S7 S11 S15 S19 S23 S26 S40 S52 S56 S69) R R
 refine Jl tv R R R R (Jd2 (cs:=[vi p0.In,vi p0.Out]) I25 Z25 R R R<|haE f76.cells)<|Ob h λx40 hx40 h=>Jh R R R C103 (sH (κ:=Mk K68) (p0:=p0) hx40) ?_
 rintro _ w77 ⟨k78,rfl,e79⟩
 obtain⟨K80,S81,m82⟩:=Ji e79 12 R
 refine Tv<|Jb 1 R ?_
 revert h
 cases ht84:decide (s4.2.2.2<x40)
 refine JF λh=>Jy R<|Jc1<|Jt<|Jt ?_
 cases h
 have h:=hk75
 refine Jb1 ?_
 cases h
 exact Jw1 _ ⟨K80,(s4.1,s4.2.1,s4.2.2.1,s4.2.2.2),ao,am,aj,aq,an,au,R,(S69.tr S81).wk R,(f70.stp S81 R R),(f71.stp S81 R R),(f72.stp S81 R R),R⟩<|KM R
 refine JT λh=>Jx R<|Js<|Jp<|Jq<|Jv<|Jq<|Js1 (κ:=K80) [0,2,3,4,6] none [(0,2),(2,2),(3,2),(4,2),(5,2),(9,2),(10,2),(1,0),(6,0),(7,0),(8,0),(11,1),(12,1),(13,2),(14,0),(15,2)] [] (by kernel_rfl) (by kernel_rfl) λw86 S85=>Jn 4 R<|Ob h λx49 hx49 h=>Jc3 R f70.rdc hx49 U29 Z2<|Jn 2 R<|Jg R (Jd2 (cs:=[.slice aJ p2.Arena.Owner.length aM,.slice aN p2.Arena.Next.length aI,.slice aK p2.Prio.length aL]) I108 Z108 R R R<|haC (f12.stp (T10 S15 S19 S23 S26 S40 S52 S56 S69 S81 S85) R R).cells R) ?_
 have f88:=f70.stp (S81.tr S85) R R
 refine Jg R (Jc2 I2 R R<|hvC (f88.rdc.gInt hx49) R) ?_
 have f89:=f76.stp (S81.tr S85) R R
 refine Jg R (Jd2 (cs:=[vi p0.In,vi p0.Out]) I25 Z25 R R R<|haC f89.cells R) ?_
 have f90:=f8.stp (T11 S11 S15 S19 S23 S26 S40 S52 S56 S69 S81 S85) R R
 refine Jg R (Jd2 (cs:=[.slice aD p1.Next.length az,.slice aE p1.Pairs.length ax]) I100 Z100 R R R<|haC f90.cells R)<|Ob h λx55 hx55 h=>?_
 have f91:=g1_0.stp (T13 S3 S7 S11 S15 S19 S23 S26 S40 S52 S56 S69 S81 S85) R R
 have f92:=g1_1.stp (T13 S3 S7 S11 S15 S19 S23 S26 S40 S52 S56 S69 S81 S85) R R
 refine Jh R R R C145 (pS (κ:=Mk K80) (p0:=p0) (p1:=p1) (Ji3 f91) (Ji3 f92) hx55) ?_
 rintro _ w93 ⟨k94,rfl,e95⟩
 obtain⟨K96,S97,m98⟩:=Ji e95 14 R
 refine⟨(S97.cl R),Ob h λx56 hx56 h=>?_⟩
 have f103:=f48.stp (T6 S52 S56 S69 S81 S85 S97) R R
 have S001:=(T14 S3 S7 S11 S15 S19 S23 S26 S40 S52 S56 S69 S81 S85 S97)
 refine Jh R R R C144 (td (κ:=Mk K96) (p0:=p2) (Ji3<|g2_0_0.stp S001 R R) (Ji3<|g2_0_1.stp S001 R R) (Ji3<|g2_1.stp S001 R R) (Ji3 f103) hx56) ?_
 rintro _ w104 ⟨k105,rfl,e106⟩
 obtain⟨K107,S108,m109⟩:=Ji e106 16 R
 refine⟨((S97.tr S108).cl R),Ob h λx57 hx57 h=>Jc3 R g4 hx57 U29 Z2<|Jg R (Jc2 I2 R R<|hvC ((g4.stp (T13 S3 S7 S11 S15 S19 S23 S26 S40 S52 S56 S69 S81 S85) R R).gInt hx57) R)<|Jn 1 R<|Jt1<|Jd<|Jq<|Jg3 [2,2,1,2] 2 R<|Ob h λx61 hx61 h=>?_⟩
 have f112:=f88.stp (S97.tr S108) R R
 refine Jh R R R C75 (nh (κ:=Mk K107) (Ji3 f112.rdc) hx61) ?_
 rintro _ w113 ⟨k114,rfl,e115⟩
 obtain⟨K116,S117,m118⟩:=Ji e115 18 R
 refine Tv<|Jb 1 R<|Ob h λq7 h hK120=>Jx1 (λL w'=>∃κ' aC aA,L=[(3,.slice a3 p3.length u3),(4,.slice a4 p4.length u4),(5,.pointer (some ⟨b5,0,none⟩)),(6,.pointer (some ⟨b6,0,none⟩)),(7,.pointer (some ⟨b7,0,none⟩)),(10,.pointer (some ⟨b10,0,none⟩)),(12,.slice aC q7.length aA),(13,.pointer (some ⟨b13,0,none⟩)),(14,vi s1.2.1),(15,vi x33.At),(16,.slice aj s4.2.1.length aq),(17,.slice an s4.2.2.1.length au),(18,vi s4.2.2.2),(19,vi x57)]/\Stp [6] K116 w113 κ' w'/\Oc E6 2 κ' w' 6 aC aA q7) ?_ ?_
 revert h
 cases ht125:decide (x61<0)
 refine JF λh=>Jy R<|Js ?_
 cases h
 exact Jw1 _ ⟨K116,ao,am,R,Jj3,(f112.stp S117 R R)⟩<|KM R
 refine JT λh=>Jx R<|Jh3 [2,2,1,1,2] 2 R<|Jn1 (κ:=K116) (E:=E6) 20 [] (parts:=[(0,.tmp 64)]) (cells:=[vi x57]) (xs:=([x57]:List Int)) R R R R R R Y29 bG R R R R R R R R R R ⟨[vi x57],[],Zl K116 w113 [],Zl K116 w113 [],R,Zl.sp (l1:=[]) (l2:=[]) R,Zl.sr (l1:=[]) (l2:=[]),R,R⟩ λbj bi w126 K127 S128 f129=>Tv<|Ob h λx66 hx66 h=>Jm1 (κ:=K127) (E:=E6) 6 [] R R R R R R R R R Y29 bG R R R R (f112.stp (S117.tr S128) R R) (Sl.srcP (bT _) f129.rdc) bK hx66 R λaS aR w131 K132 S133 f134=>Tv<|Jc 1 R ?_
 cases h
 exact Jw1 _ ⟨K132,aS,aR,R,(S128.tr S133).wk R,f134⟩<|KM R
 rintro _ w121 ⟨K122,aC,aA,rfl,S123,f124⟩
 have h:=hK120
 refine Jp<|Jg3 [2,2,2,1,1,1,2] 3 R<|Ob h λx70 hx70 h=>Jh R R R C75 (nh (κ:=Mk K122) (Ji3 f124.rdc) hx70) ?_
 rintro _ w136 ⟨k137,rfl,e138⟩
 obtain⟨K139,S140,m141⟩:=Ji e138 20 R
 have S002:=(T5 S97 S108 S117 S123 S140)
 refine Tv<|Jn1 (κ:=K139) (E:=E6) 22 [] (parts:=[(0,.tmp 70)]) (cells:=[vi x70]) (xs:=([x70]:List Int)) R R R R R R Y29 bG R R R R R R R R R R ⟨[vi x70],[],Zl K139 w136 [],Zl K139 w136 [],R,Zl.sp (l1:=[]) (l2:=[]) R,Zl.sr (l1:=[]) (l2:=[]),R,R⟩ λbh bo w143 K144 S145 f146=>Tv<|Ob h λx72 hx72 h=>Jm1 (κ:=K144) (E:=E6) 10 [] R R R R R R R R R Y29 bG R R R R (f71.stp (T8 S81 S85 S97 S108 S117 S123 S140 S145) R R) (Sl.srcP (bT _) f146.rdc) bK hx72 R λbb aT w148 K149 S150 f151=>Tv<|Jb 1 R<|Js1 (κ:=K149) [0,2,3] none [(0,2),(3,2),(4,2),(5,2),(6,2),(7,2),(8,2),(1,0),(2,0),(9,0),(10,1),(11,2),(12,1),(13,1),(14,1),(15,2)] [] (by kernel_rfl) (by kernel_rfl) λw153 S152=>Jn 5 R<|Ob h λx80 hx80 h=>Jc3 R f103 hx80 U109 Z116<|Jd3 R U116 R Z2<|Jg R (Jd2 (cs:=[vi p0.In,vi p0.Out]) I25 Z25 R R R<|haC (f89.stp (T4 S002 S145 S150 S152) R R).cells R)<|Jg R (Jd2 (cs:=[.slice aD p1.Next.length az,.slice aE p1.Pairs.length ax]) I100 Z100 R R R<|haC (f90.stp (T4 S002 S145 S150 S152) R R).cells R) ?_
 obtain⟨cse157,hre157,hle157⟩:=((f103.stp (T7 S108 S117 S123 S140 S145 S150 S152) R R)).gSt hx80
 obtain⟨ae157_0,ue157_0,rfl,fe157_0⟩:=Place.un hre157
 have S003:=(T8 S97 S108 S117 S123 S140 S145 S150 S152)
 refine Jg R (Jc2 I2 R R<|hvC (λw' hw'=>hle157 w' hw' 0 _ R) R)<|Ob h λx83 hx83 h=>Jh R R R C146 (pl (κ:=Mk K149) (p0:=p0) (p1:=p1) (Ji3<|f91.stp S003 R R) (Ji3<|f92.stp S003 R R) hx83) ?_
 rintro _ w160 ⟨k161,be,bf,rfl,e162,f163⟩
 obtain⟨K164,S165,m166⟩:=Ji e162 23 R
 refine⟨(S165.cl R),?_⟩
 have f168:=f163.mx (bI _) m166 R (R:23+2=25)
 refine Ob h λx84 hx84 h=>Jc3 R f168.rdc hx84 U29 Z2<|Jl (S165.cl R) R R R R (Jc2 I2 R R<|hvE<|f168.rdc.gInt hx84)<|Jn1 (κ:=K164) (E:=E6) 26 [] (parts:=[(0,.tmp 85)]) (cells:=[vi x84]) (xs:=([x84]:List Int)) R R R R R R Y29 bG R R R R R R R R R R ⟨[vi x84],[],Zl K164 w160 [],Zl K164 w160 [],R,Zl.sp (l1:=[]) (l2:=[]) R,Zl.sr (l1:=[]) (l2:=[]),R,R⟩ λbn bk w169 K170 S171 f172=>⟨((S165.tr S171).cl R),Ob h λx87 hx87 h=>Jm1 (κ:=K170) (E:=E6) 11 [] R R R R R R R R R Y29 bG R R R R (f72.stp (T12 S81 S85 S97 S108 S117 S123 S140 S145 S150 S152 S165 S171) R R) (Sl.srcP (bT _) f172.rdc) bK hx87 R λaZ aX w174 K175 S176 f177=>⟨((T3 S165 S171 S176).cl R),Jn 1 R<|Jt1<|Jo<|Jz<|Jp<|Jf3 R ?_⟩⟩
 cases h
 exact Jz1 λa ha=>⟨k,_,Ja3 _,⟨K175,(q7,x72,x87,((IntKind.i64.wrap<|s4.2.2.2+1):Int)),aC,aA,bb,aT,aZ,aX,R,(T14 S69 S81 S85 S97 S108 S117 S123 S140 S145 S150 S152 S165 S171 S176).wk R,(f124.stp (T7 S140 S145 S150 S152 S165 S171 S176) R R),(f151.stp (T4 S152 S165 S171 S176) R R),f177,hk75⟩,(ha.mm R)⟩
 rintro _ w61 ⟨K62,s6,aF,av,ae,al,ah,ap,rfl,S63,f64,f65,f66,rfl⟩
 have h:=yI hK59
 refine Jp<|Jq<|Jg3 [2,2,2] 1 R<|Jn3 R U29 R R<|Jb 1 R ?_
 revert h
 cases ht183:decide (48<(s6.1.length:Int))
 refine JF λh=>Jy R<|Js<|Jp<|Je [2,1,2,1,1,2,1] R<|Jd3 R U28 R Z26 ?_
 have f189:=f44.stp (T3 S52 S56 S63) R R
 refine Jb3 R I26 (f189.ld 0 R R)<|Jn 1 R<|Jn1 (κ:=K62) (E:=(Ep.own E6 2)) 12 [10] (parts:=[(0,.tmp 94)]) (cells:=[.slice ae s6.2.1.length al]) (xs:=([s6.2.1]:List (List Int))) R R R R R R Y26 bN R R R R R R R R R R ⟨[.slice ae s6.2.1.length al],[],Zl K62 w61 [10],Zl K62 w61 [],R,Zl.sp (l1:=[10]) (l2:=[]) R,Zl.sr (l1:=[10]) (l2:=[]),⟨_,_,R,f65⟩,R⟩ λbl bm w190 K191 S192 f193=>Tv<|Ob h λx96 hx96 h=>Jm1 (κ:=K191) (E:=(Ep.own E6 2)) 8 [12] R R R R R R R R R Y26 bN R R R R (f42.stp (T4 S52 S56 S63 S192) R R) f193.src (dd R) hx96 R λaw ay w195 K196 S197 f198=>Tv<|Jd3 R U28 R Z26<|Ji1 (κ:=K196) 7 (off:=0) (vc:=[.slice aw x96.length ay]) (cs':=[.slice aw x96.length ay,.slice ai s1.2.2.2.length af]) R R R R R R R Z26 R R (f189.stp (S192.tr S197) R R) R R λw200 S201 f202=>Tv<|Jd<|Ja [2,1,2,1,1,2,1] R<|Jd3 R U28 R Z26<|Jb3 R I26 (f202.ld 1 R R)<|Jn 1 R<|Jn1 (κ:=K196) (E:=(Ep.own E6 2)) 13 [11] (parts:=[(0,.tmp 100)]) (cells:=[.slice ah s6.2.2.1.length ap]) (xs:=([s6.2.2.1]:List (List Int))) R R R R R R Y26 bN R R R R R R R R R R ⟨[.slice ah s6.2.2.1.length ap],[],Zl K196 w200 [11],Zl K196 w200 [],R,Zl.sp (l1:=[11]) (l2:=[]) R,Zl.sr (l1:=[11]) (l2:=[]),⟨_,_,R,(f66.stp (T3 S192 S197 S201) R R)⟩,R⟩ λbg bd w204 K205 S206 f207=>Tv<|Ob h λx102 hx102 h=>Jm1 (κ:=K205) (E:=(Ep.own E6 2)) 9 [13] R R R R R R R R R Y26 bN R R R R (f43.stp (T7 S52 S56 S63 S192 S197 S201 S206) R R) f207.src (dd R) hx102 R λaO aH w209 K210 S211 f212=>Tv<|Jd3 R U28 R Z26<|Ji1 (κ:=K210) 7 (off:=1) (vc:=[.slice aO x102.length aH]) (cs':=[.slice aw x96.length ay,.slice aO x102.length aH]) R R R R R R R Z26 R R (f202.stp (S206.tr S211) R R) R R λw214 S215 f216=>Tv<|Jo<|Jz<|Jp<|Jf3 R ?_
 cases h
 exact Jz1 λa ha=>⟨k,_,Ja3 _,⟨K210,(s6.1,((IntKind.i64.wrap<|s1.2.1+1):Int),x96,x102),aF,av,aw,ay,aO,aH,R,(T10 S40 S52 S56 S63 S192 S197 S201 S206 S211 S215).wk R,(f64.stp (T6 S192 S197 S201 S206 S211 S215) R R),(f198.stp (T4 S201 S206 S211 S215) R R),(f212.stp S215 R R),f216,hk46⟩,(ha.mm R)⟩
 refine JT λh=>Jx R<|Je [2,1,2] R<|Jf R (bJ (parts:=[]) (cells:=[.slice none 0 0,.slice none 0 0]) R R (by kernel_rfl))<|Jj1 (κ:=K62) 5 (vc:=[.slice none 0 0,.slice none 0 0]) R R R R R R R Z28 R R (f16.stp (T7 S19 S23 S26 S40 S52 S56 S63) R R) R λw185 S186 f187=>Tv<|Jb 1 R<|Ju<|Jw<|Ja1<|Jw<|Jw ?_
 cases h
 obtain rfl:=Option.some.inj hk46
 have h:=yL hK29
 refine Ja1<|Jq2<|Jw<|Ja2 (l:=[.cell 10 28,.tmp 11]) V89 (bL R f187 I28 Z28 R<|Jp2 R R) R ?_
 cases h
 exact⟨K62,none,0,none,0,R,(hE.stp (T12 S3 S7 S11 S15 S19 S23 S26 S40 S52 S56 S63 S186) R R),Ow.nil,Ow.nil⟩
 rintro _ w31 ⟨K32,s3,aP,aQ,ab,ac,aa,ad,rfl,S33,f34,f35,f36,f37,rfl⟩
 have h:=yI hK29
 refine Jp<|Je [1,1,2] R<|Jl tv R R R R (Jd2 (cs:=[.slice ab s3.2.2.1.length ac,.slice aa s3.2.2.2.length ad]) I28 Z28 R R R<|haE f37.cells)<|Jj1 (κ:=K32) 5 (vc:=[.slice ab s3.2.2.1.length ac,.slice aa s3.2.2.2.length ad]) R R R R R R R Z28 R R (f16.stp (T4 S19 S23 S26 S33) R R) R λw221 S222 f223=>Tv<|Jb 1 R<|Ju<|Ja2 (l:=[.cell 10 28,.tmp 11]) V89 (bL R f223 I28 Z28 R<|Jp2 R R) R ?_
 cases h
 exact⟨(λb=>ren [(8,2),(9,3)]<|K32 b),ab,ac,aa,ad,R,((hE.stp (T9 S3 S7 S11 S15 S19 S23 S26 S33 S222) R R).map (ren [(8,2),(9,3)]) R R),((f35.stp S222 R R).map (ren [(8,2),(9,3)]) R R),((f36.stp S222 R R).map (ren [(8,2),(9,3)]) R R)⟩
theorem pQ {p0:Sig}{a1 u1}{p1:(List Clause)}(g1:Rd Clause.rp κ w 0 a1 u1 p1){r:Machine×Bool}(h:fl p0 p1=some r):Ret Tryz.prog 29 [.agg #[vi p0.In,vi p0.Out],.slice a1 p1.length u1] w (λv w'=>∃(κ':Col) (ra0:Option Addr) (ru0:Nat) (ra1:Option Addr) (ru1:Nat),v= .tuple #[.agg #[.slice ra0 r.1.Next.length ru0,.slice ra1 r.1.Out.length ru1],.bool r.2]/\Ent κ w κ' w'/\Oc (Ep.own E6 2) 29 κ' w' 2 ra0 ru0 r.1.Next/\Oc (Ep.own E6 2) 29 κ' w' 3 ra1 ru1 r.1.Out):=by
 unfold fl at h
 refine Jk3 κ F29 R N29 R λhE=>Je [1,1,2] R<|Jf1 (κ:=κ) 2 R R R R R R R λb2 w1 K2 S3 f4=>Tv<|Jg1 (κ:=K2) 3 R R R R R X28 R λb4 w5 K6 S7 f8=>Tv<|Jb 1 R<|Je [1,2,1,2,2,2,1,1,2] R ?_
 have f9:=f4.stp S7 R R
 refine Jl tv R R R R (Jd2 (cs:=[vi p0.In,vi p0.Out]) I25 Z25 R R R<|haE f9.cells)<|Jn 1 R<|Ob h λx18 hx18 h=>Jh R R R C68 (pM (κ:=Mk K6) (p0:=p0) (Ji3<|g1.stp (S3.tr S7) R R) hx18) ?_
 rintro _ w11 ⟨k12,af,ah,aa,ak,rfl,e13,f14,f15⟩
 obtain⟨K16,S17,m18⟩:=Ji e13 4 R
 refine Tv<|Jn 3 R<|Jg1 (κ:=K16) 8 R R R R R X100 R λb6 w22 K23 S24 f25=>Tv<|Jj1 (κ:=K23) 8 (vc:=[.slice af x18.1.Next.length ah,.slice aa x18.1.Pairs.length ak]) R R R R R R R Z100 R R f25 R λw26 S27 f28=>Tv<|Jb 1 R<|Jq<|Je3 R ?_
 revert h
 cases ht29:(!x18.2)
 refine JF λh=>Jy R<|Js<|Jp<|Je [1,1,1,2,2,2,2,1,1,2,2] R ?_
 have f35:=f9.stp (T3 S17 S24 S27) R R
 refine Jl tv R R R R (Jd2 (cs:=[vi p0.In,vi p0.Out]) I25 Z25 R R R<|haE f35.cells)<|Jl tv R R R R (Jd2 (cs:=[.slice af x18.1.Next.length ah,.slice aa x18.1.Pairs.length ak]) I100 Z100 R R R<|haE f28.cells) ?_
 obtain⟨K37,S38,z39⟩:=ea K23 w26 6
 obtain⟨K42,S43,z44⟩:=ea K37 w26 7
 have f45:=Sl.st z44 ((f15.mx Pair.no154 m18 R (R:4+3=7)).stp (T3 S24 S27 S38) R R).rdc
 refine Ob h λx27 hx27 h=>?_
 have f46:=(Sl.st z39 ((f14.mx (cm (bI _) _) m18 R (R:4+2=6)).stp (S24.tr S27) R R).rdc).stp S43 R R
 refine Jh R R R C69 (pP (κ:=λb=>mp [] 1<|K42 b) (p0:=p0) (p1:=x18.1) (Jl2 f46 (mp [] 1) R R) (Jl2 f45 (mp [] 1) R R) hx27) ?_
 rintro _ w47 ⟨k48,an,ao,ar,aq,aA,aC,rfl,e49,f50,f51,f52⟩
 obtain⟨K53,S54,m55,z56⟩:=Jj e49 9 R
 refine Tv<|Jn 4 R<|Jg1 (κ:=K53) 14 R R R R R X104 R λb8 w60 K61 S62 f63=>Tv<|Jj1 (κ:=K61) 14 (vc:=[.slice an x27.1.Owner.length ao,.slice ar x27.1.Next.length aq]) R R R R R R R Z104 R R f63 R λw64 S65 f66=>Tv<|Jb 2 R<|Jq<|Je3 R ?_
 revert h
 cases ht67:(!x27.2.2)
 refine JF λh=>Jy R<|Js<|Jp<|Je [1,2,1,2,2,2,2,1,1,2,2] R<|Jl tv R R R R (Jd2 (cs:=[.slice an x27.1.Owner.length ao,.slice ar x27.1.Next.length aq]) I104 Z104 R R R<|haE f66.cells)<|Jn 1 R ?_
 obtain⟨K74,S75,z76⟩:=ea K61 w64 11
 obtain⟨K79,S80,z81⟩:=ea K74 w64 12
 obtain⟨K84,S85,z86⟩:=ea K79 w64 13
 refine Ob h λx37 hx37 h=>Jh R R R C70 (pY (κ:=λb=>mp [] 1<|K84 b) (p0:=x27.1) (Jl2 ((Sl.st z76 ((f50.mx (bI _) m55 R (R:9+2=11)).stp (S62.tr S65) R R).rdc).stp (S80.tr S85) R R) (mp [] 1) R R) (Jl2 ((Sl.st z81 ((f51.mxz z56 m55 R (R:9+3=12)).stp (T3 S62 S65 S75) R R).rdc).stp S85 R R) (mp [] 1) R R) (Jl2 (Sl.st z86 ((f52.mx Pair.no154 m55 R (R:9+4=13)).stp (T4 S62 S65 S75 S80) R R).rdc) (mp [] 1) R R) hx37) ?_
 rintro _ w90 ⟨k91,aj,ad,ac,ai,ae,ab,az,aB,rfl,e92,f93,f94,f95,f96⟩
 obtain⟨K97,S98,m99,z100⟩:=Jj e92 15 R
 refine Tv<|Jn 4 R<|Jg1 (κ:=K97) 21 R R R R R X108 R λb11 w105 K106 S107 f108=>Tv<|Jj1 (κ:=K106) 21 (vc:=[.slice aj x37.1.Arena.Owner.length ad,.slice ac x37.1.Arena.Next.length ai,.slice ae x37.1.Prio.length ab]) R R R R R R R Z108 R R f108 R λw109 S110 f111=>Tv<|Jb 2 R<|Jq<|Je3 R ?_
 revert h
 cases ht112:(!x37.2.2)
 refine JF λh=>Jy R<|Js<|Jp<|Je [1,1,1,1] R<|Jl tv R R R R (Jd2 (cs:=[.slice aj x37.1.Arena.Owner.length ad,.slice ac x37.1.Arena.Next.length ai,.slice ae x37.1.Prio.length ab]) I108 Z108 R R R<|haE f111.cells)<|Ob h λx45 hx45 h=>?_
 have f118:=(f93.mx (bI _) m99 R (R:15+2=17)).stp (S107.tr S110) R R
 have f119:=(f94.mx (cm (bI _) _) m99 R (R:15+3=18)).stp (S107.tr S110) R R
 have f120:=(f95.mx (bI _) m99 R (R:15+4=19)).stp (S107.tr S110) R R
 refine Jh R R R C71 (rY (κ:=Mk K106) (p0:=x37.1) (Ji3 f118.rdc) (Ji3 f119.rdc) (Ji3 f120.rdc) hx45) ?_
 rintro _ w121 ⟨k122,aw,ay,av,ax,rfl,e123,f124,f125⟩
 obtain⟨K126,S127,m128⟩:=Ji e123 22 R
 refine Tv<|?_
 have f130:=f124.mx (bI _) m128 R (R:22+2=24)
 refine Jg1 (κ:=K126) 26 R R R R R X113 R λb14 w132 K133 S134 f135=>Tv<|Jj1 (κ:=K133) 26 (vc:=[.slice aw x45.Won.length ay,.slice av x45.Plan.length ax]) R R R R R R R Z113 R R f135 R λw136 S137 f138=>Tv<|Jd<|Jq<|Je [2,1,2,1,2] R<|Jd3 R U113 R Z29<|Jb3 R I29 (f138.ld 0 R R)<|Ob h λx48 hx48 h=>Jc3 R f130.rdc hx48 U29 Z2<|Jb3 R I2 ((f130.stp (S134.tr S137) R R).rdc.gInt hx48)<|Jb 1 R ?_
 revert h
 cases ht140:(x48 !=0)
 have S001:=(T14 S38 S43 S54 S62 S65 S75 S80 S85 S98 S107 S110 S127 S134 S137)
 have S002:=(T12 S54 S62 S65 S75 S80 S85 S98 S107 S110 S127 S134 S137)
 have S003:=(T3 S127 S134 S137)
 refine JF λh=>Jy R<|Js<|Jp<|Je [1,1,1,2,2,1,1,2,2,1,2] R<|Jl tv R R R R (Jd2 (cs:=[vi p0.In,vi p0.Out]) I25 Z25 R R R<|haE (f35.stp S001 R R).cells)<|Jl tv R R R R (Jd2 (cs:=[.slice af x18.1.Next.length ah,.slice aa x18.1.Pairs.length ak]) I100 Z100 R R R<|haE (f28.stp S001 R R).cells)<|Jl tv R R R R (Jd2 (cs:=[.slice aj x37.1.Arena.Owner.length ad,.slice ac x37.1.Arena.Next.length ai,.slice ae x37.1.Prio.length ab]) I108 Z108 R R R<|haE (f111.stp S003 R R).cells)<|Jn 1 R<|Jd3 R U113 R Z29<|Jb3 R I29 (f138.ld 1 R R)<|Ob h λx58 hx58 h=>Jh R R R C89 (rv (κ:=Mk K133) (p0:=p0) (p1:=x18.1) (p2:=x37.1) (Ji3<|f46.stp S002 R R) (Ji3<|f45.stp S002 R R) (Ji3 (f118.stp S003 R R).rdc) (Ji3 (f119.stp S003 R R).rdc) (Ji3 (f120.stp S003 R R).rdc) (Ji3 ((f96.mxz z100 m99 R (R:15+5=20)).stp (T5 S107 S110 S127 S134 S137) R R).rdc) (Ji3 ((f125.mx (bI _) m128 R (R:22+3=25)).stp (S134.tr S137) R R).rdc) hx58) ?_
 rintro _ w156 ⟨k157,al,am,ap,au,rfl,e158,f159,f160⟩
 obtain⟨K161,S162,m163⟩:=Ji e158 27 R
 refine Tv<|Jn 2 R<|Jj1 (κ:=K161) 3 (vc:=[.slice al x58.1.Next.length am,.slice ap x58.1.Out.length au]) R R R R R R R Z28 R R (f8.stp (S17.tr<|S24.tr<|S27.tr<|S38.tr<|S43.tr<|S54.tr<|S62.tr<|S65.tr<|S75.tr<|S80.tr<|S85.tr<|S98.tr<|S107.tr<|S110.tr<|S127.tr<|S134.tr<|S137.tr S162) R R) R λw168 S169 f170=>Tv<|Jb 1 R<|Ju<|Ja2 (l:=[.cell 4 28,.tmp 5]) V29 (bL R f170 I28 Z28 R<|Jp2 R R) R ?_
 cases h
 exact⟨(λb=>ren [(29,2),(30,3)]<|K161 b),al,am,ap,au,R,((hE.stp (S3.tr<|S7.tr<|S17.tr<|S24.tr<|S27.tr<|S38.tr<|S43.tr<|S54.tr<|S62.tr<|S65.tr<|S75.tr<|S80.tr<|S85.tr<|S98.tr<|S107.tr<|S110.tr<|S127.tr<|S134.tr<|S137.tr<|S162.tr S169) R R).map (ren [(29,2),(30,3)]) R R),(((f159.mx (cm (bI _) _) m163 R (R:27+2=29)).stp S169 R R).map (ren [(29,2),(30,3)]) R R),(((f160.mx (cm (bI _) _) m163 R (R:27+3=30)).stp S169 R R).map (ren [(29,2),(30,3)]) R R)⟩
 refine JT λh=>Jx R<|Je [2,1,2] R<|Jf R (bJ (parts:=[]) (cells:=[.slice none 0 0,.slice none 0 0]) R R (by kernel_rfl))<|Jj1 (κ:=K133) 3 (vc:=[.slice none 0 0,.slice none 0 0]) R R R R R R R Z28 R R (f8.stp (S17.tr<|S24.tr<|S27.tr<|S38.tr<|S43.tr<|S54.tr<|S62.tr<|S65.tr<|S75.tr<|S80.tr<|S85.tr<|S98.tr<|S107.tr<|S110.tr<|S127.tr<|S134.tr S137) R R) R λw142 S143 f144=>Tv<|Jb 1 R<|Ju<|Jw<|Ja2 (l:=[.cell 4 28,.tmp 5]) V29 (bL R f144 I28 Z28 R<|Jp2 R R) R ?_
 cases h
 exact⟨K133,none,0,none,0,R,(hE.stp (S3.tr<|S7.tr<|S17.tr<|S24.tr<|S27.tr<|S38.tr<|S43.tr<|S54.tr<|S62.tr<|S65.tr<|S75.tr<|S80.tr<|S85.tr<|S98.tr<|S107.tr<|S110.tr<|S127.tr<|S134.tr<|S137.tr S143) R R),Ow.nil,Ow.nil⟩
 refine JT λh=>Jx R<|Je [2,1,2] R<|Jf R (bJ (parts:=[]) (cells:=[.slice none 0 0,.slice none 0 0]) R R (by kernel_rfl))<|Jj1 (κ:=K106) 3 (vc:=[.slice none 0 0,.slice none 0 0]) R R R R R R R Z28 R R (f8.stp (T14 S17 S24 S27 S38 S43 S54 S62 S65 S75 S80 S85 S98 S107 S110) R R) R λw114 S115 f116=>Tv<|Jb 1 R<|Ju<|Jw<|Ja2 (l:=[.cell 4 28,.tmp 5]) V29 (bL R f116 I28 Z28 R<|Jp2 R R) R ?_
 cases h
 exact⟨K106,none,0,none,0,R,(hE.stp (S3.tr<|S7.tr<|S17.tr<|S24.tr<|S27.tr<|S38.tr<|S43.tr<|S54.tr<|S62.tr<|S65.tr<|S75.tr<|S80.tr<|S85.tr<|S98.tr<|S107.tr<|S110.tr S115) R R),Ow.nil,Ow.nil⟩
 refine JT λh=>Jx R<|Je [2,1,2] R<|Jf R (bJ (parts:=[]) (cells:=[.slice none 0 0,.slice none 0 0]) R R (by kernel_rfl))<|Jj1 (κ:=K61) 3 (vc:=[.slice none 0 0,.slice none 0 0]) R R R R R R R Z28 R R (f8.stp (T8 S17 S24 S27 S38 S43 S54 S62 S65) R R) R λw69 S70 f71=>Tv<|Jb 1 R<|Ju<|Jw<|Ja2 (l:=[.cell 4 28,.tmp 5]) V29 (bL R f71 I28 Z28 R<|Jp2 R R) R ?_
 cases h
 exact⟨K61,none,0,none,0,R,(hE.stp (T11 S3 S7 S17 S24 S27 S38 S43 S54 S62 S65 S70) R R),Ow.nil,Ow.nil⟩
 refine JT λh=>Jx R<|Je [2,1,2] R<|Jf R (bJ (parts:=[]) (cells:=[.slice none 0 0,.slice none 0 0]) R R (by kernel_rfl))<|Jj1 (κ:=K23) 3 (vc:=[.slice none 0 0,.slice none 0 0]) R R R R R R R Z28 R R (f8.stp (T3 S17 S24 S27) R R) R λw31 S32 f33=>Tv<|Jb 1 R<|Ju<|Jw<|Ja2 (l:=[.cell 4 28,.tmp 5]) V29 (bL R f33 I28 Z28 R<|Jp2 R R) R ?_
 cases h
 exact⟨K23,none,0,none,0,R,(hE.stp (T6 S3 S7 S17 S24 S27 S32) R R),Ow.nil,Ow.nil⟩
theorem lP {p0:Sig}{a1 u1}{p1:(List Clause)}(g1:Rd Clause.rp κ w 0 a1 u1 p1){r:Machine×Bool}(h:eh p0 p1=some r):Ret Tryz.prog 30 [.agg #[vi p0.In,vi p0.Out],.slice a1 p1.length u1] w (λv w'=>∃(κ':Col) (ra0:Option Addr) (ru0:Nat) (ra1:Option Addr) (ru1:Nat),v= .tuple #[.agg #[.slice ra0 r.1.Next.length ru0,.slice ra1 r.1.Out.length ru1],.bool r.2]/\Ent κ w κ' w'/\Oc (Ep.own E6 2) 29 κ' w' 2 ra0 ru0 r.1.Next/\Oc (Ep.own E6 2) 29 κ' w' 3 ra1 ru1 r.1.Out):=by
 unfold eh at h
 refine Jk3 κ F30 R N30 R λhE=>Je [1,1,2] R<|Jf1 (κ:=κ) 2 R R R R R R R λb2 w1 K2 S3 f4=>Tv<|Jg1 (κ:=K2) 3 R R R R R X28 R λb4 w5 K6 S7 f8=>Tv<|Jb 1 R<|Je [1,2,1,2,2,2,1,1,2] R ?_
 have f9:=f4.stp S7 R R
 refine Jl tv R R R R (Jd2 (cs:=[vi p0.In,vi p0.Out]) I25 Z25 R R R<|haE f9.cells)<|Jn 1 R<|Ob h λx27 hx27 h=>Jh R R R C77 (pp (κ:=Mk K6) (p0:=p0) (Ji3<|g1.stp (S3.tr S7) R R) hx27) ?_
 rintro _ w11 ⟨k12,aQ,aI,aN,aS,rfl,e13,f14,f15⟩
 obtain⟨K16,S17,m18⟩:=Ji e13 4 R
 refine Tv<|Jn 3 R<|Jg1 (κ:=K16) 8 R R R R R X100 R λb6 w22 K23 S24 f25=>Tv<|Jj1 (κ:=K23) 8 (vc:=[.slice aQ x27.1.Next.length aI,.slice aN x27.1.Pairs.length aS]) R R R R R R R Z100 R R f25 R λw26 S27 f28=>Tv<|Jb 1 R<|Jq<|Je3 R ?_
 revert h
 cases ht29:(!x27.2)
 refine JF λh=>Jy R<|Js<|Jp<|Je [1,1,1,2,2,2,1,1,2] R ?_
 have f35:=f9.stp (T3 S17 S24 S27) R R
 refine Jl tv R R R R (Jd2 (cs:=[vi p0.In,vi p0.Out]) I25 Z25 R R R<|haE f35.cells)<|Jl tv R R R R (Jd2 (cs:=[.slice aQ x27.1.Next.length aI,.slice aN x27.1.Pairs.length aS]) I100 Z100 R R R<|haE f28.cells)<|Ob h λx36 hx36 h=>?_
 have f36:=(f14.mx (cm (bI _) _) m18 R (R:4+2=6)).stp (S24.tr S27) R R
 have f37:=(f15.mx Pair.no154 m18 R (R:4+3=7)).stp (S24.tr S27) R R
 refine Jh R R R C78 (pE (κ:=Mk K23) (p0:=p0) (p1:=x27.1) (Ji3 f36.rdc) (Ji3 f37.rdc) hx36) ?_
 rintro _ w38 ⟨k39,aT,aV,aW,aU,bq,bp,rfl,e40,f41,f42,f43⟩
 obtain⟨K44,S45,m46⟩:=Ji e40 9 R
 refine Tv<|Jn 3 R<|Jg1 (κ:=K44) 14 R R R R R X104 R λb8 w51 K52 S53 f54=>Tv<|Jj1 (κ:=K52) 14 (vc:=[.slice aT x36.1.Owner.length aV,.slice aW x36.1.Next.length aU]) R R R R R R R Z104 R R f54 R λw55 S56 f57=>Tv<|Jb 1 R<|Je [1,2,1,2,2,2,2,1,1,1,1,2] R<|Jl tv R R R R (Jd2 (cs:=[.slice aT x36.1.Owner.length aV,.slice aW x36.1.Next.length aU]) I104 Z104 R R R<|haE f57.cells)<|Jn 1 R ?_
 obtain⟨K59,S60,z61⟩:=ea K52 w55 11
 obtain⟨K64,S65,z66⟩:=ea K59 w55 12
 obtain⟨K69,S70,z71⟩:=ea K64 w55 13
 refine Ob h λx42 hx42 h=>Jh R R R C79 (pV (κ:=λb=>mp [] 1<|K69 b) (p0:=x36.1) (Jl2 ((Sl.st z61 ((f41.mx (bI _) m46 R (R:9+2=11)).stp (S53.tr S56) R R).rdc).stp (S65.tr S70) R R) (mp [] 1) R R) (Jl2 ((Sl.st z66 ((f42.mx (cm (bI _) _) m46 R (R:9+3=12)).stp (T3 S53 S56 S60) R R).rdc).stp S70 R R) (mp [] 1) R R) (Jl2 (Sl.st z71 ((f43.mx Pair.no154 m46 R (R:9+4=13)).stp (T4 S53 S56 S60 S65) R R).rdc) (mp [] 1) R R) hx42) ?_
 rintro _ w75 ⟨k76,aG,aF,aP,aJ,aR,aK,aY,bj,rfl,e77,f78,f79,f80,f81⟩
 obtain⟨K82,S83,m84,z85⟩:=Jj e77 15 R
 refine Tv<|?_
 have f86:=f78.mx (bI _) m84 R (R:15+2=17)
 have f87:=f79.mxz z85 m84 R (R:15+3=18)
 have f88:=f80.mx (bI _) m84 R (R:15+4=19)
 have f89:=f81.mxz z85 m84 R (R:15+5=20)
 refine Jn 4 R<|Jg1 (κ:=K82) 21 R R R R R X108 R λb10 w90 K91 S92 f93=>Tv<|Jg1 (κ:=K91) 22 R R R R R X109 R λb11 w94 K95 S96 f97=>Tv<|Jj1 (κ:=K95) 21 (vc:=[.slice aG x42.1.Arena.Owner.length aF,.slice aP x42.1.Arena.Next.length aJ,.slice aR x42.1.Prio.length aK]) R R R R R R R Z108 R R (f93.stp S96 R R) R λw99 S100 f101=>Tv<|Jj1 (κ:=K95) 22 (vc:=[.slice aY x42.2.1.length bj]) R R R R R R R Z109 R R (f97.stp S100 R R) R λw103 S104 f105=>Tv<|Jb 1 R<|Jq<|Jg3 [2,2,2,1,1,2,1,2,2] 3 R<|Ob h λp54 h hK106=>Ju1 [(3,1),(4,1),(5,2),(6,1),(7,2),(8,2)] [] (λL w'=>L=[(2,.pointer (some ⟨b2,0,none⟩)),(4,.pointer (some ⟨b4,0,none⟩)),(6,.pointer (some ⟨b6,0,none⟩)),(10,.pointer (some ⟨b10,0,none⟩)),(11,.pointer (some ⟨b11,0,none⟩)),(54,.bool p54)]/\∃κ',Stp [] K95 w103 κ' w') tv ?_ ?_
 revert h
 cases ht107:(!x42.2.2)
 have S001:=(T4 S92 S96 S100 S104)
 refine JF λh=>Jl tv R R R R (Jd2 (cs:=[.slice aG x42.1.Arena.Owner.length aF,.slice aP x42.1.Arena.Next.length aJ,.slice aR x42.1.Prio.length aK]) I108 Z108 R R R<|haE (f101.stp S104 R R).cells)<|Ob h λx50 hx50 h=>Jh R R R C80 (m0 (κ:=Mk K95) (p0:=x42.1) (Ji3 (f86.stp S001 R R).rdc) (Ji3 (f87.stp S001 R R).rdc) (Ji3 (f88.stp S001 R R).rdc) hx50) ?_
 rintro _ w112 ⟨k113,bm,bw,rfl,e114,f115⟩
 obtain⟨K116,S117,m118⟩:=Ji e114 23 R
 refine Tv<|?_
 have f120:=f115.mx (bI _) m118 R (R:23+2=25)
 refine Ob h λx51 hx51 h=>Jc3 R f120.rdc hx51 U29 Z2<|Jb3 R I2 (f120.rdc.gInt hx51)<|Jn 2 R ?_
 cases h
 exact Jv1 _ tv ⟨R,_,S117.wk R⟩<|KM R
 refine JT λh=>Jd1 R R R R<|Jd1 R R R R<|Jn 1 R<|Jd1 R R R R<|Jn 2 R ?_
 cases h
 exact Jv1 _ tv ⟨R,_,Jj3⟩<|KM R
 rintro _ w121 _ ⟨rfl,K122,S123⟩
 have h:=hK106
 refine Jd ?_
 revert h
 cases ht124:p54
 refine JF λh=>Jy R<|Js<|Jp<|Je [1,1,2,2] R ?_
 have f130:=f101.stp (S104.tr S123) R R
 refine Jl tv R R R R (Jd2 (cs:=[.slice aG x42.1.Arena.Owner.length aF,.slice aP x42.1.Arena.Next.length aJ,.slice aR x42.1.Prio.length aK]) I108 Z108 R R R<|haE f130.cells)<|Ob h λx57 hx57 h=>?_
 have f132:=f87.stp (T5 S92 S96 S100 S104 S123) R R
 have S002:=(T5 S92 S96 S100 S104 S123)
 refine Jh R R R C90 (sk (κ:=Mk K122) (p0:=x42.1) (Ji3 (f86.stp S002 R R).rdc) (Ji3 f132.rdc) (Ji3 (f88.stp S002 R R).rdc) hx57) ?_
 rintro _ w134 ⟨k135,bv,bl,av,ay,rfl,e136,f137,f138⟩
 obtain⟨K139,S140,m141⟩:=Ji e136 23 R
 refine Tv<|?_
 have f144:=f138.mx (bI _) m141 R (R:23+3=26)
 refine Jf R (uh U113 R I29 R R R)<|Jb 1 R<|Je [2,1,2,1,1] R<|Jd3 R U100 R Z26 ?_
 have f145:=f28.stp (T13 S45 S53 S56 S60 S65 S70 S83 S92 S96 S100 S104 S123 S140) R R
 refine Jb3 R I26 (f145.ld 0 R R)<|Jn3 R U26 R R<|Jg1 (κ:=K139) 27 R R R R R X2 R λb13 w146 K147 S148 f149=>Tv<|Jj1 (κ:=K147) 27 (vc:=[vi (x27.1.Next.length:Int)]) R R R R R R R Z2 R R f149 R λw150 S151 f152=>Tv<|Jd<|Je [1,2] R<|Jn1 (κ:=K147) (E:=E6) 28 [] (parts:=[(0,.const (vi 0))]) (cells:=[vi 0]) (xs:=([0]:List Int)) R R R R R R Y29 bG R R R R R R R R R R ⟨[vi 0],[],Zl K147 w150 [],Zl K147 w150 [],R,Zl.sp (l1:=[]) (l2:=[]) R,Zl.sr (l1:=[]) (l2:=[]),R,R⟩ λbc ba w153 K154 S155 f156=>Tv<|Jb 1 R<|Je [2,1,1] R<|Jf R (bJ (parts:=[]) (cells:=[.slice none 0 0,.slice none 0 0]) R R (by kernel_rfl))<|Jg1 (κ:=K154) 29 R R R R R X28 R λb15 w157 K158 S159 f160=>Tv<|Jj1 (κ:=K158) 29 (vc:=[.slice none 0 0,.slice none 0 0]) R R R R R R R Z28 R R f160 R λw161 S162 f163=>Tv<|Jd<|Jq<|Je3 R<|Ob h λq2 hq166 hK165=>?_
 clear h
 refine Jx1 (λL w'=>∃κ',∃s3:(List Int)×Int×(List<|List Int)×(List<|List Int),∃aH aO ad ab aa ac,L=[(4,.pointer (some ⟨b4,0,none⟩)),(14,.slice aH s3.1.length aO),(15,.pointer (some ⟨b15,0,none⟩))]/\Stp [28,29,30,31,32,33,34,37,38] K158 w161 κ' w'/\Oc E6 2 κ' w' 28 aH aO s3.1/\Oc (Ep.own E6 2) 29 κ' w' 30 ad ab s3.2.2.1/\Oc (Ep.own E6 2) 29 κ' w' 31 aa ac s3.2.2.2/\Bc κ' w' 29 b15 28 [.slice ad s3.2.2.1.length ab,.slice aa s3.2.2.2.length ac]/\q2=xe s3) ?_ ?_
 refine Jv<|Jy1 (λk L w'=>∃κ',∃s1:(List Int)×Int×(List<|List Int)×(List<|List Int),∃au an ax aE ae ah,L=[(2,.pointer (some ⟨b2,0,none⟩)),(4,.pointer (some ⟨b4,0,none⟩)),(6,.pointer (some ⟨b6,0,none⟩)),(10,.pointer (some ⟨b10,0,none⟩)),(11,.pointer (some ⟨b11,0,none⟩)),(12,.slice av x57.Plan.length ay),(13,.pointer (some ⟨b13,0,none⟩)),(14,.slice au s1.1.length an),(15,.pointer (some ⟨b15,0,none⟩)),(16,vi s1.2.1)]/\Stp [28,29,30,31,32,33,34,37,38] K158 w161 κ' w'/\Oc E6 2 κ' w' 28 au an s1.1/\Oc (Ep.own E6 2) 29 κ' w' 30 ax aE s1.2.2.1/\Oc (Ep.own E6 2) 29 κ' w' 31 ae ah s1.2.2.2/\Bc κ' w' 29 b15 28 [.slice ax s1.2.2.1.length aE,.slice ae s1.2.2.2.length ah]/\bZ (d6 p0 x27 x42 x57) k s1=some q2) ⟨_,_,⟨K158,((([0]:List Int):(List Int)),(0:Int),(([]:List (List Int)):(List<|List Int)),(([]:List (List Int)):(List<|List Int))),bc,ba,none,0,none,0,R,Jj3,(f156.stp (S159.tr S162) R R),Ow.nil,Ow.nil,f163,hq166⟩,(KM R)⟩ ?_
 rintro k _ w174 ⟨K175,s1,au,an,ax,aE,ae,ah,rfl,S176,f177,f178,f179,f180,h⟩
 rcases k with _ | k
 cases h
 obtain⟨o164,h,hk182⟩:=BI h;unfold d6 at h
 refine Jq<|Jg3 [2,2,2,2] 2 R<|Jn3 R U29 R R<|Jb 1 R ?_
 revert h
 cases ht183:decide (s1.2.1<(s1.1.length:Int))
 refine JF λh=>Jy R<|Jc1<|Jt<|Jt ?_
 cases h
 have h:=hk182
 refine Jb1 ?_
 cases h
 exact Jw1 _ ⟨K175,(s1.1,s1.2.1,s1.2.2.1,s1.2.2.2),au,an,ax,aE,ae,ah,R,S176.wk R,f177,f178,f179,f180,R⟩<|KM R
 refine JT λh=>Jx R<|Js<|Jp<|Jq<|Jv<|Jq<|Js1 (κ:=K175) [0,20,22,28] none [(1,2),(2,2),(3,2),(0,0),(4,0),(5,2),(6,2),(7,0),(8,1),(9,1)] [] (by kernel_rfl) (by kernel_rfl) λw185 S184=>Jn 2 R<|Ob h λx73 hx73 h=>Jc3 R f177.rdc hx73 U29 Z2 ?_
 have f186:=f105.stp (T9 S123 S140 S148 S151 S155 S159 S162 S176 S184) R R
 refine Jg R (Jc2 I109 R R<|hvC (f186.ld 0 R R) R) ?_
 have f187:=f177.stp S184 R R
 refine Jg R (Jc2 I2 R R<|hvC (f187.rdc.gInt hx73) R)<|Ob h λx75 hx75 h=>Jc3 R f89.rdc hx75 U109 Z116<|Jd3 R U116 R Z2 ?_
 have f188:=f89.stp (T13 S92 S96 S100 S104 S123 S140 S148 S151 S155 S159 S162 S176 S184) R R
 obtain⟨cse189,hre189,hle189⟩:=Ow.gZS f188 hx75
 obtain⟨ae189_0,ue189_0,rfl,fe189_0⟩:=Place.un hre189
 refine Jg R (Jc2 I2 R R<|hvC (λw' hw'=>hle189 w' hw' 0 _ R) R)<|Jg1 (κ:=K175) 32 R R R R R X2 R λb17 w190 K191 S192 f193=>⟨(S192.cl R),Jj1 (κ:=K191) 32 (vc:=[vi x75.At]) R R R R R R R Z2 R R f193 R λw194 S195 f196=>⟨((S192.tr S195).cl R),Jt1<|Jd<|Je [1,1,2,2] R<|Jo1 (κ:=K191) (E:=E6) 33 R R R R R Y29 bG R λaZ aX w197 K198 S199 f200=>Tv<|Jo1 (κ:=K198) (E:=E6) 34 R R R R R Y29 bG R λbg bk w201 K202 S203 f204=>Tv<|Jb 2 R<|Jq<|Je [1,1,2] R ?_⟩⟩
 have f205:=f35.stp (S45.tr (S53.tr (S56.tr (S60.tr (S65.tr (S70.tr (S83.tr (S92.tr (S96.tr (S100.tr (S104.tr (S123.tr (S140.tr (S148.tr (S151.tr (S155.tr (S159.tr (S162.tr (S176.tr (S184.tr (S192.tr (S195.tr (S199.tr S203))))))))))))))))))))))) R R
 refine Jl tv R R R R (Jd2 (cs:=[vi p0.In,vi p0.Out]) I25 Z25 R R R<|haE f205.cells)<|Ob h λx81 hx81 h=>Jh R R R C52 (fN (κ:=Mk K202) (p0:=p0) hx81) ?_
 rintro _ w206 ⟨k207,rfl,e208⟩
 obtain⟨K209,S210,m211⟩:=Ji e208 35 R
 refine Tv<|Jb 1 R<|Ob h λ_ hr213 h=>?_
 have hN213:=iw hr213
 refine Ob h λq5 hq215 hK214=>?_
 clear h
 refine Jx1 (λL w'=>∃κ',∃s6:(List Int)×(List Int)×(List Int),∃az aA al ao am af,L=[(2,.pointer (some ⟨b2,0,none⟩)),(4,.pointer (some ⟨b4,0,none⟩)),(6,.pointer (some ⟨b6,0,none⟩)),(10,.pointer (some ⟨b10,0,none⟩)),(11,.pointer (some ⟨b11,0,none⟩)),(12,.slice av x57.Plan.length ay),(13,.pointer (some ⟨b13,0,none⟩)),(14,.slice az s6.1.length aA),(15,.pointer (some ⟨b15,0,none⟩)),(16,vi s1.2.1),(18,.slice al s6.2.1.length ao),(19,.slice am s6.2.2.length af)]/\Stp [28,33,34,37] K209 w206 κ' w'/\Oc E6 2 κ' w' 28 az aA s6.1/\Oc E6 2 κ' w' 33 al ao s6.2.1/\Oc E6 2 κ' w' 34 am af s6.2.2/\q5=xe s6) ?_ ?_
 refine Jv<|Jy1 (λk L w'=>∃κ' v82,∃s4:(List Int)×(List Int)×(List Int),∃aq ap ar aj ai ak,L=[(2,.pointer (some ⟨b2,0,none⟩)),(4,.pointer (some ⟨b4,0,none⟩)),(6,.pointer (some ⟨b6,0,none⟩)),(10,.pointer (some ⟨b10,0,none⟩)),(11,.pointer (some ⟨b11,0,none⟩)),(12,.slice av x57.Plan.length ay),(13,.pointer (some ⟨b13,0,none⟩)),(14,.slice aq s4.1.length ap),(15,.pointer (some ⟨b15,0,none⟩)),(16,vi s1.2.1),(17,.pointer (some ⟨b17,0,none⟩)),(18,.slice ar s4.2.1.length aj),(19,.slice ai s4.2.2.length ak),(81,vi x81),(82,vi v82)]/\Stp [28,33,34,37] K209 w206 κ' w'/\Oc E6 2 κ' w' 28 aq ap s4.1/\Oc E6 2 κ' w' 33 ar aj s4.2.1/\Oc E6 2 κ' w' 34 ai ak s4.2.2/\0<=v82/\Int.toNat (x81-v82)=k/\cntM (dm p0 x27 x42 x57 s1 x75) k v82 s4=some q5) ⟨_,_,⟨K209,0,(s1.1,(([]:List Int):(List Int)),(([]:List Int):(List Int))),au,an,aZ,aX,bg,bk,R,Jj3,(f187.stp (T5 S192 S195 S199 S203 S210) R R),(f200.stp (S203.tr S210) R R),(f204.stp S210 R R),(by decide),(by simp),hq215⟩,(KM R)⟩ ?_
 rintro k _ w222 ⟨K223,v82,s4,aq,ap,ar,aj,ai,ak,rfl,S224,f225,f226,f227,hj213,hJ213,h⟩
 rcases k with _ | k
 have hk231:=h;obtain⟨o213,h⟩:=bP (xe (Sum.inl s4):(Machine×Bool)⊕(((List Int)×(List Int)×(List Int))⊕((List Int)×(List Int)×(List Int))))
 have hc213:decide (v82<x81)=false:=Jo2 (by omega)
 refine Je3 R<|Jq<|Jw2 R hc213<|Jc1<|Jt<|Jt ?_
 cases h
 have h:=hk231
 refine Jb1 ?_
 cases h
 exact Jw1 _ ⟨K223,(s4.1,s4.2.1,s4.2.2),aq,ap,ar,aj,ai,ak,R,S224.wk R,f225,f226,f227,R⟩<|KM R
 obtain⟨o213,h,hk231⟩:=BI h;unfold dm at h
 have hc213:decide (v82<x81)=true:=Jn2 (by omega)
 refine Je3 R<|Jq<|Jv2 R hc213<|Js<|Jp<|Jq<|Jv<|Jg3 [2,1,1] 1 R<|Jg1 (κ:=K223) 37 R R R R R X2 R λb20 w232 K233 S234 f235=>Tv<|Jj1 (κ:=K233) 37 (vc:=[vi v82]) R R R R R R R Z2 R R f235 R λw236 S237 f238=>Tv<|Jd<|Jq<|Js1 (κ:=K233) [0,18,21,28] none [(0,2),(1,2),(3,2),(4,2),(5,2),(9,2),(2,0),(6,0),(7,2),(8,0),(10,1),(11,2)] [] (by kernel_rfl) (by kernel_rfl) λw240 S239=>Jd3 R U108 R Z104<|Jd3 R U104 R Z26<|Jn 2 R<|Ob h λx90 hx90 h=>Jc3 R f225.rdc hx90 U29 Z2<|Jf R (gD (first:=[]) (captured:=[.tmp 11,.tmp 13,.tmp 17,.tmp 2,.tmp 20]) R R R ⟨_,R⟩) ?_
 have f241:=f130.stp (S140.tr (S148.tr (S151.tr (S155.tr (S159.tr (S162.tr (S176.tr (S184.tr (S192.tr (S195.tr (S199.tr (S203.tr (S210.tr (S224.tr (S234.tr (S237.tr S239)))))))))))))))) R R
 refine Jg R (Jc2 I26 R R<|hvC (f241.ld 1 R R) R) ?_
 have f242:=f225.stp (T3 S234 S237 S239) R R
 refine Jg R (Jc2 I2 R R<|hvC (f242.rdc.gInt hx90) R)<|Ob h λx92 hx92 h=>Jc3 R f132.rdc hx92 U26 Z29 ?_
 have f243:=f132.stp (S140.tr (S148.tr (S151.tr (S155.tr (S159.tr (S162.tr (S176.tr (S184.tr (S192.tr (S195.tr (S199.tr (S203.tr (S210.tr (S224.tr (S234.tr (S237.tr S239)))))))))))))))) R R
 obtain⟨ax92,ux92,f244,hl245⟩:=f243.gZ hx92
 refine Jg R (Jc2 I29 R R<|hvC hl245 R)<|Ob h λx95 hx95 h=>?_
 have f246:=f188.stp (T9 S192 S195 S199 S203 S210 S224 S234 S237 S239) R R
 have f247:=f186.stp (T9 S192 S195 S199 S203 S210 S224 S234 S237 S239) R R
 have f249:=f196.stp (T7 S199 S203 S210 S224 S234 S237 S239) R R
 have f250:=f205.stp (T5 S210 S224 S234 S237 S239) R R
 have f251:=f238.stp S239 R R
 refine Jh R R R C91 (eq (κ:=Mk K233) (c1_3:=p0) (Ji3 f244) (Ji3 f246.rdc) (f247.map (mp [] 0) R R) ((f152.stp (T14 S155 S159 S162 S176 S184 S192 S195 S199 S203 S210 S224 S234 S237 S239) R R).map (mp [] 0) R R) (f249.map (mp [] 0) R R) (f250.map (mp [] 0) R R) (f251.map (mp [] 0) R R) hx95) ?_
 rintro _ w252 ⟨k253,rfl,e254⟩
 obtain⟨K255,S256,m257⟩:=Ji e254 38 R
 refine⟨(S256.cl R),Jn 1 R<|Jt1<|Jd<|Jq<|Js1 (κ:=K255) [0,18,21,26,28] none [(0,2),(1,2),(2,2),(4,2),(5,2),(6,2),(10,2),(3,0),(7,0),(8,2),(9,0),(11,2),(12,0),(13,2),(14,0),(15,2)] [] (by kernel_rfl) (by kernel_rfl) λw260 S259=>Jn 1 R<|Jd3 R U108 R Z104<|Jd3 R U104 R Z26<|Jn 2 R<|Ob h λx102 hx102 h=>Jc3 R f242.rdc hx102 U29 Z2<|Jn 1 R<|Jg R (Jc2 I26 R R<|hvC ((f241.stp (S256.tr S259) R R).ld 1 R R) R) ?_⟩
 have f262:=f242.stp (S256.tr S259) R R
 refine Jg R (Jc2 I2 R R<|hvC (f262.rdc.gInt hx102) R)<|Ob h λx104 hx104 h=>Jc3 R f243.rdc hx104 U26 Z29 ?_
 obtain⟨ax104,ux104,f264,hl265⟩:=(f243.stp (S256.tr S259) R R).gZ hx104
 refine Jg R (Jc2 I29 R R<|hvC hl265 R)<|Ob h λx107 hx107 h=>Jc3 R f264 hx107 U29 Z2<|Jg R (Jc2 I2 R R<|hvC (f264.gInt hx107) R)<|Ob h λx109 hx109 h=>Jc3 R f144.rdc hx109 U29 Z2<|Jg R (Jc2 I2 R R<|hvC ((f144.stp (S148.tr<|S151.tr<|S155.tr<|S159.tr<|S162.tr<|S176.tr<|S184.tr<|S192.tr<|S195.tr<|S199.tr<|S203.tr<|S210.tr<|S224.tr<|S234.tr<|S237.tr<|S239.tr<|S256.tr S259) R R).rdc.gInt hx109) R)<|Jn 1 R<|Jt1<|Jd<|Jg3 [2,2,1,2] 2 R<|Ob h λx113 hx113 h=>Jh R R R C63 (gA (κ:=Mk K255) (Ji3 f262.rdc) hx113) ?_
 rintro _ w267 ⟨k268,rfl,e269⟩
 obtain⟨K270,S271,m272⟩:=Ji e269 40 R
 refine Tv<|Jb 1 R<|Jq<|Je3 R<|Ob h λq7 h hK274=>Jx1 (λL w'=>∃κ' aw aD,L=[(2,.pointer (some ⟨b2,0,none⟩)),(4,.pointer (some ⟨b4,0,none⟩)),(6,.pointer (some ⟨b6,0,none⟩)),(10,.pointer (some ⟨b10,0,none⟩)),(11,.pointer (some ⟨b11,0,none⟩)),(12,.slice av x57.Plan.length ay),(13,.pointer (some ⟨b13,0,none⟩)),(14,.slice aw q7.1.length aD),(15,.pointer (some ⟨b15,0,none⟩)),(16,vi s1.2.1),(17,.pointer (some ⟨b17,0,none⟩)),(18,.slice ar s4.2.1.length aj),(19,.slice ai s4.2.2.length ak),(20,.pointer (some ⟨b20,0,none⟩)),(22,vi x109),(23,vi q7.2),(81,vi x81),(82,vi v82)]/\Stp [28] K270 w267 κ' w'/\Oc E6 2 κ' w' 28 aw aD q7.1) ?_ ?_
 revert h
 cases ht279:decide (x113<0)
 refine JF λh=>Jy R<|Js ?_
 cases h
 exact Jw1 _ ⟨K270,aq,ap,R,Jj3,(f262.stp S271 R R)⟩<|KM R
 refine JT λh=>Jx R<|Jg3 [2,2,2] 1 R<|Jn3 R U29 R R<|Jb 1 R<|Jh3 [2,2,1,1,2] 2 R<|Jn1 (κ:=K270) (E:=E6) 42 [] (parts:=[(0,.tmp 119)]) (cells:=[vi x109]) (xs:=([x109]:List Int)) R R R R R R Y29 bG R R R R R R R R R R ⟨[vi x109],[],Zl K270 w267 [],Zl K270 w267 [],R,Zl.sp (l1:=[]) (l2:=[]) R,Zl.sr (l1:=[]) (l2:=[]),R,R⟩ λbD bn w280 K281 S282 f283=>Tv<|Ob h λx121 hx121 h=>Jm1 (κ:=K281) (E:=E6) 28 [] R R R R R R R R R Y29 bG R R R R (f262.stp (S271.tr S282) R R) (Sl.srcP (bT _) f283.rdc) bK hx121 R λbh bf w285 K286 S287 f288=>Tv<|Jc 1 R ?_
 cases h
 exact Jw1 _ ⟨K286,bh,bf,R,(S282.tr S287).wk R,f288⟩<|KM R
 rintro _ w275 ⟨K276,aw,aD,rfl,S277,f278⟩
 have h:=hK274
 have S003:=(T4 S256 S259 S271 S277)
 refine Jp<|Jg3 [2,2,1,1,2] 2 R<|Jn1 (κ:=K276) (E:=E6) 42 [] (parts:=[(0,.tmp 123)]) (cells:=[vi q7.2]) (xs:=([q7.2]:List Int)) R R R R R R Y29 bG R R R R R R R R R R ⟨[vi q7.2],[],Zl K276 w275 [],Zl K276 w275 [],R,Zl.sp (l1:=[]) (l2:=[]) R,Zl.sr (l1:=[]) (l2:=[]),R,R⟩ λbx br w290 K291 S292 f293=>Tv<|Ob h λx125 hx125 h=>Jm1 (κ:=K291) (E:=E6) 33 [] R R R R R R R R R Y29 bG R R R R (f226.stp (T8 S234 S237 S239 S256 S259 S271 S277 S292) R R) (Sl.srcP (bT _) f293.rdc) bK hx125 R λbi be w295 K296 S297 f298=>Tv<|Jb 1 R<|Js1 (κ:=K296) [0,2,8,20,22,32,37] none [(0,2),(6,2),(1,0),(2,0),(3,0),(4,0),(5,0),(7,2),(8,2),(9,0),(10,1),(11,2),(12,1),(13,1),(14,1),(15,2)] [] (by kernel_rfl) (by kernel_rfl) λw300 S299=>Jn 2 R<|Jg R (Jd2 (cs:=[vi p0.In,vi p0.Out]) I25 Z25 R R R<|haC (f250.stp (T4 S003 S292 S297 S299) R R).cells R)<|Jg R (Jd2 (cs:=[.slice aQ x27.1.Next.length aI,.slice aN x27.1.Pairs.length aS]) I100 Z100 R R R<|haC (f145.stp (S148.tr<|S151.tr<|S155.tr<|S159.tr<|S162.tr<|S176.tr<|S184.tr<|S192.tr<|S195.tr<|S199.tr<|S203.tr<|S210.tr<|S224.tr<|S234.tr<|S237.tr<|S239.tr<|S256.tr<|S259.tr<|S271.tr<|S277.tr<|S292.tr<|S297.tr S299) R R).cells R)<|Jg R (Jc2 I2 R R<|hvC ((f249.stp (T4 S003 S292 S297 S299) R R).ld 0 R R) R)<|Jg R (Jc2 I2 R R<|hvC ((f251.stp (T4 S003 S292 S297 S299) R R).ld 0 R R) R)<|Jg R (Jc2 I109 R R<|hvC ((f247.stp (T4 S003 S292 S297 S299) R R).ld 0 R R) R)<|Ob h λx133 hx133 h=>Jc3 R f246.rdc hx133 U109 Z116<|Jd3 R U116 R Z2 ?_
 obtain⟨cse307,hre307,hle307⟩:=Ow.gZS (f246.stp (T7 S256 S259 S271 S277 S292 S297 S299) R R) hx133
 obtain⟨ae307_0,ue307_0,rfl,fe307_0⟩:=Place.un hre307
 have S004:=(S45.tr (S53.tr (S56.tr (S60.tr (S65.tr (S70.tr (S83.tr (S92.tr (S96.tr (S100.tr (S104.tr (S123.tr (S140.tr (S148.tr (S151.tr (S155.tr (S159.tr (S162.tr (S176.tr (S184.tr (S192.tr (S195.tr (S199.tr (S203.tr (S210.tr (S224.tr (S234.tr (S237.tr (S239.tr (S256.tr (S259.tr (S271.tr (S277.tr (S292.tr (S297.tr S299)))))))))))))))))))))))))))))))))))
 refine Jg R (Jc2 I2 R R<|hvC (λw' hw'=>hle307 w' hw' 0 _ R) R)<|Ob h λx136 hx136 h=>Jh R R R C93 (oZ (κ:=Mk K296) (p0:=p0) (p1:=x27.1) (Ji3 (f36.stp S004 R R).rdc) (Ji3 (f37.stp S004 R R).rdc) hx136) ?_
 rintro _ w310 ⟨k311,bz,bA,rfl,e312,f313⟩
 obtain⟨K314,S315,m316⟩:=Ji e312 43 R
 refine⟨(S315.cl R),?_⟩
 have f318:=f313.mx (bI _) m316 R (R:43+2=45)
 refine Ob h λx137 hx137 h=>Jc3 R f318.rdc hx137 U29 Z2<|Jl (S315.cl R) R R R R (Jc2 I2 R R<|hvE<|f318.rdc.gInt hx137)<|Jn1 (κ:=K314) (E:=E6) 46 [] (parts:=[(0,.tmp 138)]) (cells:=[vi x137]) (xs:=([x137]:List Int)) R R R R R R Y29 bG R R R R R R R R R R ⟨[vi x137],[],Zl K314 w310 [],Zl K314 w310 [],R,Zl.sp (l1:=[]) (l2:=[]) R,Zl.sr (l1:=[]) (l2:=[]),R,R⟩ λbo bu w319 K320 S321 f322=>⟨((S315.tr S321).cl R),Ob h λx140 hx140 h=>Jm1 (κ:=K320) (E:=E6) 34 [] R R R R R R R R R Y29 bG R R R R (f227.stp (T12 S234 S237 S239 S256 S259 S271 S277 S292 S297 S299 S315 S321) R R) (Sl.srcP (bT _) f322.rdc) bK hx140 R λbb bd w324 K325 S326 f327=>⟨((T3 S315 S321 S326).cl R),Jn 1 R<|Jt1<|Jo<|Jz<|Jp<|Jf3 R ?_⟩⟩
 have hw213:t0 .i64 (v82+1)=v82+1:=wr1 hj213 (Jm2 hc213) hN213
 rw[hw213]
 have hc213:=Jm2 hc213
 cases h
 exact Jz1 λa ha=>⟨k,_,Ja3 _,⟨K325,v82+1,(q7.1,x125,x140),aw,aD,bi,be,bb,bd,R,(T14 S224 S234 S237 S239 S256 S259 S271 S277 S292 S297 S299 S315 S321 S326).wk R,(f278.stp (T6 S292 S297 S299 S315 S321 S326) R R),(f298.stp (T4 S299 S315 S321 S326) R R),f327,by omega,by omega,hk231⟩,(ha.mm R)⟩
 rintro _ w216 ⟨K217,s6,az,aA,al,ao,am,af,rfl,S218,f219,f220,f221,rfl⟩
 have h:=yI hK214
 refine Jp<|Je [2,1,2,1,1,2,1] R<|Jd3 R U28 R Z26 ?_
 have f330:=f180.stp (T7 S184 S192 S195 S199 S203 S210 S218) R R
 have S005:=(T7 S184 S192 S195 S199 S203 S210 S218)
 refine Jb3 R I26 (f330.ld 0 R R)<|Jn 1 R<|Jn1 (κ:=K217) (E:=(Ep.own E6 2)) 37 [33] (parts:=[(0,.tmp 144)]) (cells:=[.slice al s6.2.1.length ao]) (xs:=([s6.2.1]:List (List Int))) R R R R R R Y26 bN R R R R R R R R R R ⟨[.slice al s6.2.1.length ao],[],Zl K217 w216 [33],Zl K217 w216 [],R,Zl.sp (l1:=[33]) (l2:=[]) R,Zl.sr (l1:=[33]) (l2:=[]),⟨_,_,R,f220⟩,R⟩ λbB bt w331 K332 S333 f334=>Tv<|Ob h λx146 hx146 h=>Jm1 (κ:=K332) (E:=(Ep.own E6 2)) 30 [37] R R R R R R R R R Y26 bN R R R R (f178.stp (S005.tr S333) R R) f334.src (dd R) hx146 R λaB aC w336 K337 S338 f339=>Tv<|Jd3 R U28 R Z26<|Ji1 (κ:=K337) 29 (off:=0) (vc:=[.slice aB x146.length aC]) (cs':=[.slice aB x146.length aC,.slice ae s1.2.2.2.length ah]) R R R R R R R Z26 R R (f330.stp (S333.tr S338) R R) R R λw341 S342 f343=>Tv<|Jd<|Ja [2,1,2,1,1,2,1] R<|Jd3 R U28 R Z26<|Jb3 R I26 (f343.ld 1 R R)<|Jn 1 R<|Jn1 (κ:=K337) (E:=(Ep.own E6 2)) 38 [34] (parts:=[(0,.tmp 150)]) (cells:=[.slice am s6.2.2.length af]) (xs:=([s6.2.2]:List (List Int))) R R R R R R Y26 bN R R R R R R R R R R ⟨[.slice am s6.2.2.length af],[],Zl K337 w341 [34],Zl K337 w341 [],R,Zl.sp (l1:=[34]) (l2:=[]) R,Zl.sr (l1:=[34]) (l2:=[]),⟨_,_,R,(f221.stp (T3 S333 S338 S342) R R)⟩,R⟩ λbC bs w345 K346 S347 f348=>Tv<|Ob h λx152 hx152 h=>Jm1 (κ:=K346) (E:=(Ep.own E6 2)) 31 [38] R R R R R R R R R Y26 bN R R R R (f179.stp (T5 S005 S333 S338 S342 S347) R R) f348.src (dd R) hx152 R λaL aM w350 K351 S352 f353=>Tv<|Jd3 R U28 R Z26<|Ji1 (κ:=K351) 29 (off:=1) (vc:=[.slice aL x152.length aM]) (cs':=[.slice aB x146.length aC,.slice aL x152.length aM]) R R R R R R R Z26 R R (f343.stp (S347.tr S352) R R) R R λw355 S356 f357=>Tv<|Jo<|Jz<|Jp<|Jf3 R ?_
 cases h
 exact Jz1 λa ha=>⟨k,_,Ja3 _,⟨K351,(s6.1,((IntKind.i64.wrap<|s1.2.1+1):Int),x146,x152),az,aA,aB,aC,aL,aM,R,(T14 S176 S184 S192 S195 S199 S203 S210 S218 S333 S338 S342 S347 S352 S356).wk R,(f219.stp (T6 S333 S338 S342 S347 S352 S356) R R),(f339.stp (T4 S342 S347 S352 S356) R R),(f353.stp S356 R R),f357,hk182⟩,(ha.mm R)⟩
 rintro _ w167 ⟨K168,s3,aH,aO,ad,ab,aa,ac,rfl,S169,f170,f171,f172,f173,rfl⟩
 have h:=yI hK165
 refine Jp<|Jq<|Jg3 [2,2,2] 1 R<|Jn3 R U29 R R<|Jb 1 R ?_
 revert h
 cases ht361:decide (48<(s3.1.length:Int))
 refine JF λh=>Jy R<|Js<|Jp<|Je [1,1,2] R<|Jl tv R R R R (Jd2 (cs:=[.slice ad s3.2.2.1.length ab,.slice aa s3.2.2.2.length ac]) I28 Z28 R R R<|haE f173.cells)<|Jj1 (κ:=K168) 3 (vc:=[.slice ad s3.2.2.1.length ab,.slice aa s3.2.2.2.length ac]) R R R R R R R Z28 R R (f8.stp (S17.tr<|S24.tr<|S27.tr<|S45.tr<|S53.tr<|S56.tr<|S60.tr<|S65.tr<|S70.tr<|S83.tr<|S92.tr<|S96.tr<|S100.tr<|S104.tr<|S123.tr<|S140.tr<|S148.tr<|S151.tr<|S155.tr<|S159.tr<|S162.tr S169) R R) R λw368 S369 f370=>Tv<|Jb 1 R<|Ju<|Ja2 (l:=[.cell 4 28,.tmp 5]) V30 (bL R f370 I28 Z28 R<|Jp2 R R) R ?_
 cases h
 exact⟨(λb=>ren [(30,2),(31,3)]<|K168 b),ad,ab,aa,ac,R,((hE.stp (S3.tr<|S7.tr<|S17.tr<|S24.tr<|S27.tr<|S45.tr<|S53.tr<|S56.tr<|S60.tr<|S65.tr<|S70.tr<|S83.tr<|S92.tr<|S96.tr<|S100.tr<|S104.tr<|S123.tr<|S140.tr<|S148.tr<|S151.tr<|S155.tr<|S159.tr<|S162.tr<|S169.tr S369) R R).map (ren [(30,2),(31,3)]) R R),((f171.stp S369 R R).map (ren [(30,2),(31,3)]) R R),((f172.stp S369 R R).map (ren [(30,2),(31,3)]) R R)⟩
 refine JT λh=>Jx R<|Je [2,1,2] R<|Jf R (bJ (parts:=[]) (cells:=[.slice none 0 0,.slice none 0 0]) R R (by kernel_rfl))<|Jj1 (κ:=K168) 3 (vc:=[.slice none 0 0,.slice none 0 0]) R R R R R R R Z28 R R (f8.stp (S17.tr<|S24.tr<|S27.tr<|S45.tr<|S53.tr<|S56.tr<|S60.tr<|S65.tr<|S70.tr<|S83.tr<|S92.tr<|S96.tr<|S100.tr<|S104.tr<|S123.tr<|S140.tr<|S148.tr<|S151.tr<|S155.tr<|S159.tr<|S162.tr S169) R R) R λw363 S364 f365=>Tv<|Jb 1 R<|Ju<|Jw<|Ja2 (l:=[.cell 4 28,.tmp 5]) V30 (bL R f365 I28 Z28 R<|Jp2 R R) R ?_
 cases h
 exact⟨K168,none,0,none,0,R,(hE.stp (S3.tr<|S7.tr<|S17.tr<|S24.tr<|S27.tr<|S45.tr<|S53.tr<|S56.tr<|S60.tr<|S65.tr<|S70.tr<|S83.tr<|S92.tr<|S96.tr<|S100.tr<|S104.tr<|S123.tr<|S140.tr<|S148.tr<|S151.tr<|S155.tr<|S159.tr<|S162.tr<|S169.tr S364) R R),Ow.nil,Ow.nil⟩
 refine JT λh=>Jx R<|Je [2,1,2] R<|Jf R (bJ (parts:=[]) (cells:=[.slice none 0 0,.slice none 0 0]) R R (by kernel_rfl))<|Jj1 (κ:=K122) 3 (vc:=[.slice none 0 0,.slice none 0 0]) R R R R R R R Z28 R R (f8.stp (T15 S17 S24 S27 S45 S53 S56 S60 S65 S70 S83 S92 S96 S100 S104 S123) R R) R λw126 S127 f128=>Tv<|Jb 1 R<|Ju<|Jw<|Ja2 (l:=[.cell 4 28,.tmp 5]) V30 (bL R f128 I28 Z28 R<|Jp2 R R) R ?_
 cases h
 exact⟨K122,none,0,none,0,R,(hE.stp (S3.tr<|S7.tr<|S17.tr<|S24.tr<|S27.tr<|S45.tr<|S53.tr<|S56.tr<|S60.tr<|S65.tr<|S70.tr<|S83.tr<|S92.tr<|S96.tr<|S100.tr<|S104.tr<|S123.tr S127) R R),Ow.nil,Ow.nil⟩
 refine JT λh=>Jx R<|Je [2,1,2] R<|Jf R (bJ (parts:=[]) (cells:=[.slice none 0 0,.slice none 0 0]) R R (by kernel_rfl))<|Jj1 (κ:=K23) 3 (vc:=[.slice none 0 0,.slice none 0 0]) R R R R R R R Z28 R R (f8.stp (T3 S17 S24 S27) R R) R λw31 S32 f33=>Tv<|Jb 1 R<|Ju<|Jw<|Ja2 (l:=[.cell 4 28,.tmp 5]) V30 (bL R f33 I28 Z28 R<|Jp2 R R) R ?_
 cases h
 exact⟨K23,none,0,none,0,R,(hE.stp (T6 S3 S7 S17 S24 S27 S32) R R),Ow.nil,Ow.nil⟩
end Go.Proofs.YtpcjbkgbnoocaaaGreat
