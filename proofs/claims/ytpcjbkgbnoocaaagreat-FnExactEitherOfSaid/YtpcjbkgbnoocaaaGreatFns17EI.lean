/- The walks, part 17. By program. -/
import Derived.Test.YtpcjbkgbnoocaaaGreatFns15EI
import Derived.Test.YtpcjbkgbnoocaaaGreatFns16EI
set_option linter.unusedVariables false
set_option linter.unusedSimpArgs false
open Go.IntKind renaming wrap → t5
namespace Go.Proofs.YtpcjbkgbnoocaaaGreat
open Go Go.Wk Go.Proofs
set_option maxRecDepth 100000
set_option maxHeartbeats 1000000
theorem lr {w:World}{κ:Col}{p0:Sig}{a1 u1}{p1:(List Clause)}(g1:Rd Clause.rp κ w 0 a1 u1 p1){r:Det×Bool}(h:df p0 p1=some r):Ret Tryz.prog 68 [.agg #[vi p0.In,vi p0.Out],.slice a1 p1.length u1] w (λv w'=>∃(κ':Col) (ra0:Option Addr) (ru0:Nat) (ra1:Option Addr) (ru1:Nat),v= .tuple #[.agg #[.slice ra0 r.1.Next.length ru0,.slice ra1 r.1.Pairs.length ru1],.bool r.2]/\Ent κ w κ' w'/\Oc (Ep.own E6 2) 29 κ' w' 2 ra0 ru0 r.1.Next/\Oc Pair.ep154 154 κ' w' 3 ra1 ru1 r.1.Pairs):=by
 unfold df at h
 refine Ret.enter F68 R N68 R ?_
 dsimp only[envOf]
 have hE:=Ent.refl κ w
 refine Je [1,1,2] R (Jf1 (κ:=κ) 2 R R R R R R R λb2 w1 K2 S3 f4=>⟨tv,Jg1 (κ:=K2) 3 R R R R R X100 R λb4 w5 K6 S7 f8=>⟨tv,Jb 1 R (Jq (Je [1,2,1,2] R ?_))⟩⟩)
 have f9:=f4.stp S7 R R
 refine Jl tv R R R R (Jd2 (cs:=[vi p0.In,vi p0.Out]) I25 Z25 R R R (haE f9.cells)) (Jn 1 R (Ob h λx12 hx12 h=>?_))
 have f10:=g1.stp (S3.tr S7) R R
 refine Jh R R R C114 (ob (κ:=Mk K6) (p0:=p0) (Ji3 f10) hx12) ?_
 rintro _ w11 ⟨k12,rfl,e13⟩
 obtain⟨K14,S15,m16⟩:=Ji e13 4 R
 refine⟨tv,Jb 1 R ?_⟩
 revert h
 cases ht18:(!x12)
 refine JF λh=>Jy R (Js (Jp (Je [1,1,1,1,2,1,1] R ?_)))
 have f24:=f9.stp S15 R R
 refine Jl tv R R R R (Jd2 (cs:=[vi p0.In,vi p0.Out]) I25 Z25 R R R (haE f24.cells)) (Ob h λx16 hx16 h=>Jh R R R C58 (eI (κ:=Mk K14) (p0:=p0) hx16) ?_)
 rintro _ w25 ⟨k26,rfl,e27⟩
 obtain⟨K28,S29,m30⟩:=Ji e27 6 R
 refine⟨tv,Ob h λx17 hx17 h=>Jl1 (κ:=K28) (E:=E6) (z:=(0:Int)) 8 R R R R R R R Y29 Tryzinfo2 R R R R R (λ_ _ _=>R) (Ju2 hx17) λav aw w32 K33 S34 f35=>⟨tv,Jn1 (κ:=K33) (E:=(Ep.own E6 2)) 9 [8] (parts:=[(0,.tmp 17)]) (cells:=[.slice av x17.length aw]) (xs:=([x17]:List (List Int))) R R R R R R Y26 Tryzinfo29 R R R R R R R R R R ⟨[.slice av x17.length aw],[],Zl K33 w32 [8],Zl K33 w32 [],R,Zl.sp (l1:=[8]) (l2:=[]) R,Zl.sr (l1:=[8]) (l2:=[]),⟨_,_,R,f35⟩,R⟩ λar au w36 K37 S38 f39=>⟨tv,Jf R (bI (parts:=[(0,.tmp 18)]) (cells:=[.slice ar ([x17]:List (List Int)).length au,.slice none 0 0]) R R (by kernel_rfl)) (Jg1 (κ:=K37) 10 R R R R R X100 R λb6 w40 K41 S42 f43=>⟨tv,Jj1 (κ:=K41) 10 (vc:=[.slice ar ([x17]:List (List Int)).length au,.slice none 0 0]) R R R R R R R Z100 R R f43 R λw44 S45 f46=>⟨tv,Jd (Jq (Je3 R ?_))⟩⟩)⟩⟩⟩
 have hN47:(p1.length:Int)<=9223372036854775807:=f10.len_le
 refine Ob h λq2 hq49 hK48=>?_
 clear h
 refine Jx1 (λL w'=>∃κ',∃s3:(List (List Int))×(List Pair),∃am aj ak ae,L=[(4,.pointer (some ⟨b4,0,none⟩)),(6,.pointer (some ⟨b6,0,none⟩))]/\Stp [10,12,13,16,18,19,20] K41 w44 κ' w'/\Oc (Ep.own E6 2) 29 κ' w' 9 am aj s3.1/\Oc Pair.ep154 154 κ' w' 11 ak ae s3.2/\Bc κ' w' 10 b6 100 [.slice am s3.1.length aj,.slice ak s3.2.length ae]/\q2=Sum.inr s3) ?_ ?_
 refine Jv (Jy1 (λk L w'=>∃κ' v7,∃s1:(List (List Int))×(List Pair),∃ao an ap aq,L=[(1,.slice a1 p1.length u1),(2,.pointer (some ⟨b2,0,none⟩)),(4,.pointer (some ⟨b4,0,none⟩)),(6,.pointer (some ⟨b6,0,none⟩)),(7,vi v7)]/\Stp [10,12,13,16,18,19,20] K41 w44 κ' w'/\Oc (Ep.own E6 2) 29 κ' w' 9 ao an s1.1/\Oc Pair.ep154 154 κ' w' 11 ap aq s1.2/\Bc κ' w' 10 b6 100 [.slice ao s1.1.length an,.slice ap s1.2.length aq]/\0<=v7/\Int.toNat ((p1.length:Int)-v7)=k/\cntM (dO p0 p1) k v7 s1=some q2) ⟨_,_,⟨K41,0,((([x17]:List (List Int)):(List (List Int))),(([]:List Pair):(List Pair))),ar,au,none,0,R,Jj3,(f39.stp (S42.tr S45) R R),Ow.nil,f46,(by decide),(by simp),hq49⟩,(KM R)⟩ ?_)
 rintro k _ w56 ⟨K57,v7,s1,ao,an,ap,aq,rfl,S58,f59,f60,f61,hj47,hJ47,h⟩
 rcases k with _ | k
 have hk63:=h;obtain⟨o47,h⟩:=bO (Sum.inr (Sum.inl s1):(Det×Bool)⊕(((List (List Int))×(List Pair))⊕((List (List Int))×(List Pair))))
 have hc47:decide (v7<(p1.length:Int))=false:=Jo2 (by omega)
 refine Jq (Jg3 [2,2,2,2] 2 R (Jf R (Je2 U49 R R) (Jb 1 R (Jw2 R hc47 (Jc1 (Jt (Jt ?_)))))))
 cases h
 have h:=hk63
 refine Jb1 ?_
 cases h
 exact Jw1 _ ⟨K57,((s1.1:(List (List Int))),(s1.2:(List Pair))),ao,an,ap,aq,R,S58.wk R,f59,f60,f61,R⟩ (KM R)
 obtain⟨o47,h,hk63⟩:=BI h;unfold dO at h
 have hc47:decide (v7<(p1.length:Int))=true:=Jn2 (by omega)
 refine Jq (Jg3 [2,2,2,2] 2 R (Jf R (Je2 U49 R R) (Jb 1 R (Jv2 R hc47 (Js (Jp (Jq (Jv (Jq (Ob h λx32 hx32 h=>Ob h λx34 hx34 h=>Ob h λx35 hx35 h=>Jx1 (λL w'=>∃κ' b8 al ah af ai,L=[(1,.slice a1 p1.length u1),(2,.pointer (some ⟨b2,0,none⟩)),(4,.pointer (some ⟨b4,0,none⟩)),(6,.pointer (some ⟨b6,0,none⟩)),(7,vi v7),(8,.pointer (some ⟨b8,0,none⟩)),(9,.bool x35.2)]/\Stp [12,16,18,19,20] K57 w56 κ' w'/\Oc (Ep.own E6 2) 29 κ' w' 12 al ah x35.1.Next/\Oc Pair.ep154 154 κ' w' 13 af ai x35.1.Pairs/\Bc κ' w' 14 b8 100 [.slice al x35.1.Next.length ah,.slice af x35.1.Pairs.length ai]) ?_ ?_))))))))))
 refine WC.rxt (κ:=K57) [0,2,10] none (by kernel_rfl) λw71 S72=>Jq1 (fuel:=8) [(3,2),(4,2),(5,2),(0,0),(1,0),(2,0),(6,0)] (by kernel_rfl) (by kernel_rfl) R (Jn 2 R (Jc3 R f10 hx32 U49 Z119 ?_))
 have f73:=f24.stp (S29.tr (S34.tr (S38.tr (S42.tr (S45.tr (S58.tr S72)))))) R R
 refine Jg R (Jd2 (cs:=[vi p0.In,vi p0.Out]) I25 Z25 R R R (haC f73.cells R)) (Jg R (Jd2 (cs:=[.slice ao s1.1.length an,.slice ap s1.2.length aq]) I100 Z100 R R R (haC (f61.stp S72 R R).cells R)) (Jg R (Jd2 (cs:=[vi p0.In,vi p0.Out]) I25 Z25 R R R (haC f73.cells R)) ?_))
 obtain⟨cse76,hre76,hle76⟩:=((f10.stp (S15.tr (S29.tr (S34.tr (S38.tr (S42.tr (S45.tr (S58.tr S72))))))) R R)).gSt hx32
 obtain⟨ae76_0,ue76_0,ae76_1,ue76_1,rfl,fe76_0,fe76_1⟩:=Clause.un hre76
 refine Jg R (Jd2 (cs:=[vi x32.Kind,.slice ae76_0 x32.A.length ue76_0,.slice ae76_1 x32.B.length ue76_1]) I119 Z119 R R R (haC hle76 R)) (Jp1 (WA.fork2 (fuel:=7) 7 12 (by kernel_rfl) R ?_ ?_))
 refine Jh R R R C116 (kK (κ:=Mk K57) (p0:=p0) (p1:=x32) (Ji3 fe76_0) (Ji3 fe76_1) hx34) ?_
 rintro _ w77 ⟨k78,az,ay,ax,aA,rfl,e79,f80,f81⟩
 obtain⟨K82,S83,m84⟩:=Ji e79 12 R
 refine⟨(S83.cl R),?_⟩
 have f86:=f80.mx (co (bH _) _) m84 R (R:12+2=14)
 have f87:=f81.mx Pair.no154 m84 R (R:12+3=15)
 refine Jp1 (WA.fork2 (fuel:=6) 8 12 (by kernel_rfl) R ?_ ?_)
 refine Jh R R R C115 (jt (κ:=Mk K82) (p0:=p0) (p1:=(⟨s1.1,s1.2⟩:Det)) (p2:=x34) (Ji3 (f59.stp (S72.tr S83) R R).rdc) (Ji3 (f60.stp (S72.tr S83) R R).rdc) (Ji3 f86.rdc) (Ji3 f87.rdc) hx35) ?_
 rintro _ w90 ⟨k91,aa,ad,ab,ac,rfl,e92,f93,f94⟩
 obtain⟨K95,S96,m97⟩:=Ji e92 16 R
 exact⟨((S83.tr S96).cl R),Jp1 (Jq1 (fuel:=0) [(9,2),(10,2),(11,2),(12,1),(13,1),(14,2)] (by kernel_rfl) (by kernel_rfl) R (Jn 3 R (Jg1 (κ:=K95) 20 R R R R R X100 R λb8 w101 K102 S103 f104=>⟨((S83.tr (S96.tr S103)).cl R),Jj1 (κ:=K102) 20 (vc:=[.slice aa x35.1.Next.length ad,.slice ab x35.1.Pairs.length ac]) R R R R R R R Z100 R R f104 R λw105 S106 f107=>⟨((S83.tr (S96.tr (S103.tr S106))).cl R),Jn 1 R (Jp1 (Jr1 [] (by kernel_rfl) (by kernel_rfl) R (Jo (Jw1 _ ⟨(λb=>ren [(18,12),(19,13),(20,14)] (K102 b)),b8,aa,ad,ab,ac,R,(Jy2 ((S72.tr (S83.tr (S96.tr (S103.tr S106)))).wk R) [(18,12),(19,13),(20,14)] R),(((f93.mx (co (bH _) _) m97 R (R:16+2=18)).stp (S103.tr S106) R R).map (ren [(18,12),(19,13),(20,14)]) R R),(((f94.mx Pair.no154 m97 R (R:16+3=19)).stp (S103.tr S106) R R).map (ren [(18,12),(19,13),(20,14)]) R R),(f107.map (ren [(18,12),(19,13),(20,14)]) R R)⟩ (KM R)))))⟩⟩)))⟩
 refine Jg1 (κ:=K82) 16 R R R R R X100 R λb8 w110 K111 S112 f113=>⟨((S83.tr S112).cl R),Jp1 (Jq1 (fuel:=0) [(8,1),(9,2),(10,2),(11,2),(13,1),(14,2)] (by kernel_rfl) (by kernel_rfl) R (Jh R R R C115 (jt (κ:=Mk K111) (p0:=p0) (p1:=(⟨s1.1,s1.2⟩:Det)) (p2:=x34) (Ji3 (f59.stp (S72.tr (S83.tr S112)) R R).rdc) (Ji3 (f60.stp (S72.tr (S83.tr S112)) R R).rdc) (Ji3 (f86.stp S112 R R).rdc) (Ji3 (f87.stp S112 R R).rdc) hx35) ?_))⟩
 rintro _ w118 ⟨k119,aa,ad,ab,ac,rfl,e120,f121,f122⟩
 obtain⟨K123,S124,m125⟩:=Ji e120 17 R
 exact⟨((S83.tr (S112.tr S124)).cl R),Jn 3 R (Jj1 (κ:=K123) 16 (vc:=[.slice aa x35.1.Next.length ad,.slice ab x35.1.Pairs.length ac]) R R R R R R R Z100 R R (f113.stp S124 R R) R λw130 S131 f132=>⟨((S83.tr (S112.tr (S124.tr S131))).cl R),Jn 1 R (Jp1 (Jr1 [] (by kernel_rfl) (by kernel_rfl) R (Jo (Jw1 _ ⟨(λb=>ren [(19,12),(20,13),(16,14)] (K123 b)),b8,aa,ad,ab,ac,R,(Jy2 ((S72.tr (S83.tr (S112.tr (S124.tr S131)))).wk R) [(19,12),(20,13),(16,14)] R),(((f121.mx (co (bH _) _) m125 R (R:17+2=19)).stp S131 R R).map (ren [(19,12),(20,13),(16,14)]) R R),(((f122.mx Pair.no154 m125 R (R:17+3=20)).stp S131 R R).map (ren [(19,12),(20,13),(16,14)]) R R),(f132.map (ren [(19,12),(20,13),(16,14)]) R R)⟩ (KM R)))))⟩)⟩
 refine Jg1 (κ:=K57) 12 R R R R R X100 R λb8 w135 K136 S137 f138=>⟨(S137.cl R),Jp1 (Jq1 (fuel:=0) [(7,1),(8,1),(9,2),(10,2),(11,2),(13,1),(14,2)] (by kernel_rfl) (by kernel_rfl) R (Jh R R R C116 (kK (κ:=Mk K136) (p0:=p0) (p1:=x32) (Ji3 (fe76_0.stp S137 R R)) (Ji3 (fe76_1.stp S137 R R)) hx34) ?_))⟩
 rintro _ w141 ⟨k142,az,ay,ax,aA,rfl,e143,f144,f145⟩
 obtain⟨K146,S147,m148⟩:=Ji e143 13 R
 refine⟨((S137.tr S147).cl R),Jh R R R C115 (jt (κ:=Mk K146) (p0:=p0) (p1:=(⟨s1.1,s1.2⟩:Det)) (p2:=x34) (Ji3 (f59.stp (S72.tr (S137.tr S147)) R R).rdc) (Ji3 (f60.stp (S72.tr (S137.tr S147)) R R).rdc) (Ji3 (f144.mx (co (bH _) _) m148 R (R:13+2=15)).rdc) (Ji3 (f145.mx Pair.no154 m148 R (R:13+3=16)).rdc) hx35) ?_⟩
 rintro _ w154 ⟨k155,aa,ad,ab,ac,rfl,e156,f157,f158⟩
 obtain⟨K159,S160,m161⟩:=Ji e156 17 R
 have S001:=(S137.tr (S147.tr S160))
 exact⟨(S001.cl R),Jn 3 R (Jj1 (κ:=K159) 12 (vc:=[.slice aa x35.1.Next.length ad,.slice ab x35.1.Pairs.length ac]) R R R R R R R Z100 R R (f138.stp (S147.tr S160) R R) R λw166 S167 f168=>⟨((S001.tr S167).cl R),Jn 1 R (Jp1 (Jr1 [] (by kernel_rfl) (by kernel_rfl) R (Jo (Jw1 _ ⟨(λb=>ren [(19,12),(20,13),(12,14)] (K159 b)),b8,aa,ad,ab,ac,R,(Jy2 ((S72.tr (S137.tr (S147.tr (S160.tr S167)))).wk R) [(19,12),(20,13),(12,14)] R),(((f157.mx (co (bH _) _) m161 R (R:17+2=19)).stp S167 R R).map (ren [(19,12),(20,13),(12,14)]) R R),(((f158.mx Pair.no154 m161 R (R:17+3=20)).stp S167 R R).map (ren [(19,12),(20,13),(12,14)]) R R),(f168.map (ren [(19,12),(20,13),(12,14)]) R R)⟩ (KM R)))))⟩)⟩
 rintro _ w64 ⟨K65,b8,al,ah,af,ai,rfl,S66,f68,f69,f70⟩
 refine Jp (Jq (Je3 R ?_))
 revert h
 cases ht171:(!x35.2)
 refine JF λh=>Jy R (Js (Jp (Ja [1,1] R (Jl tv R R R R (Jd2 (cs:=[.slice al x35.1.Next.length ah,.slice af x35.1.Pairs.length ai]) I100 Z100 R R R (haE f70.cells)) (Jj1 (κ:=K65) 10 (vc:=[.slice al x35.1.Next.length ah,.slice af x35.1.Pairs.length ai]) R R R R R R R Z100 R R (f61.stp S66 R R) R λw178 S179 f180=>⟨tv,Jo (Jz (Jp (Jf3 R ?_)))⟩)))))
 have hw47:t5 .i64 (v7+1)=v7+1:=wr1 hj47 (Jm2 hc47) hN47
 rw[hw47]
 have hc47:=Jm2 hc47
 cases h
 exact Jz1 λa ha=>⟨k,_,Ja3 _,⟨(λb=>ren [(12,9),(13,11)] (K65 b)),v7+1,((x35.1.Next:(List (List Int))),(x35.1.Pairs:(List Pair))),al,ah,af,ai,R,(Jy2 ((S58.tr (S66.tr S179)).wk R) [(12,9),(13,11)] R),((f68.stp S179 R R).map (ren [(12,9),(13,11)]) R R),((f69.stp S179 R R).map (ren [(12,9),(13,11)]) R R),(f180.map (ren [(12,9),(13,11)]) R R),by omega,by omega,hk63⟩,(ha.mm R)⟩
 refine JT λh=>Jx R (Je [2,1,2] R (Jf R (bI (parts:=[]) (cells:=[.slice none 0 0,.slice none 0 0]) R R (by kernel_rfl)) (Jj1 (κ:=K65) 3 (vc:=[.slice none 0 0,.slice none 0 0]) R R R R R R R Z100 R R (f8.stp (S15.tr (S29.tr (S34.tr (S38.tr (S42.tr (S45.tr (S58.tr S66))))))) R R) R λw173 S174 f175=>⟨tv,Jb 1 R (Ju (Jw (Ja1 (Jw (Jw ?_)))))⟩)))
 cases h
 obtain rfl:=Option.some.inj hk63
 have h:=hK48
 dsimp only[aft]at h
 refine Ja1 (Jq2 (Jw (Ja2 (l:=[.cell 4 100,.tmp 5]) V68 (bL R f175 I100 Z100 R (Jp2 R R)) R ?_)))
 cases h
 exact⟨K65,none,0,none,0,R,(hE.stp (S3.tr (S7.tr (S15.tr (S29.tr (S34.tr (S38.tr (S42.tr (S45.tr (S58.tr (S66.tr S174)))))))))) R R),Ow.nil,Ow.nil⟩
 rintro _ w50 ⟨K51,s3,am,aj,ak,ae,rfl,S52,f53,f54,f55,rfl⟩
 have h:=hK48
 dsimp only[aft]at h
 refine Jp (Je [1,1,2] R (Jl tv R R R R (Jd2 (cs:=[.slice am s3.1.length aj,.slice ak s3.2.length ae]) I100 Z100 R R R (haE f55.cells)) (Jj1 (κ:=K51) 3 (vc:=[.slice am s3.1.length aj,.slice ak s3.2.length ae]) R R R R R R R Z100 R R (f8.stp (S15.tr (S29.tr (S34.tr (S38.tr (S42.tr (S45.tr S52)))))) R R) R λw184 S185 f186=>⟨tv,Jb 1 R (Ju (Ja2 (l:=[.cell 4 100,.tmp 5]) V68 (bL R f186 I100 Z100 R (Jp2 R R)) R ?_))⟩)))
 cases h
 exact⟨(λb=>ren [(9,2),(11,3)] (K51 b)),am,aj,ak,ae,R,((hE.stp (S3.tr (S7.tr (S15.tr (S29.tr (S34.tr (S38.tr (S42.tr (S45.tr (S52.tr S185))))))))) R R).map (ren [(9,2),(11,3)]) R R),((f53.stp S185 R R).map (ren [(9,2),(11,3)]) R R),((f54.stp S185 R R).map (ren [(9,2),(11,3)]) R R)⟩
 refine JT λh=>Jx R (Je [2,1,2] R (Jf R (bI (parts:=[]) (cells:=[.slice none 0 0,.slice none 0 0]) R R (by kernel_rfl)) (Jj1 (κ:=K14) 3 (vc:=[.slice none 0 0,.slice none 0 0]) R R R R R R R Z100 R R (f8.stp S15 R R) R λw20 S21 f22=>⟨tv,Jb 1 R (Ju (Jw (Ja2 (l:=[.cell 4 100,.tmp 5]) V68 (bL R f22 I100 Z100 R (Jp2 R R)) R ?_)))⟩)))
 cases h
 exact⟨K14,none,0,none,0,R,(hE.stp (S3.tr (S7.tr (S15.tr S21))) R R),Ow.nil,Ow.nil⟩
theorem rj {w:World}{κ:Col}{p0:Sig}{ab ae aj ah}{p1:Det}{p2:Int}(g1_0:Rd (Rp.sl (Rp.int .i64)) κ w 0 ab ae p1.Next) (g1_1:Rd Pair.rp κ w 0 aj ah p1.Pairs){r:Int}(h:kI p0 p1 p2=some r):Ret Tryz.prog 152 [.agg #[vi p0.In,vi p0.Out],.agg #[.slice ab p1.Next.length ae,.slice aj p1.Pairs.length ah],vi p2] w (λv w'=>∃(κ':Col),v=vi r/\Ent κ w κ' w'):=by
 unfold kI at h
 refine Ret.enter F152 R N152 R ?_
 dsimp only[envOf]
 have hE:=Ent.refl κ w
 refine Je [1,1,2] R (Jf1 (κ:=κ) 2 R R R R R R R λb3 w1 K2 S3 f4=>⟨tv,Jf1 (κ:=K2) 3 R R R R R R R λb4 w5 K6 S7 f8=>⟨tv,Jb 1 R (Je [1,1,1,2,2,2,2,1,1,2,2] R (Jl tv R R R R (Jd2 (cs:=[vi p0.In,vi p0.Out]) I25 Z25 R R R (haE (f4.stp S7 R R).cells)) (Jl tv R R R R (Jd2 (cs:=[.slice ab p1.Next.length ae,.slice aj p1.Pairs.length ah]) I100 Z100 R R R (haE f8.cells)) (Ob h λx18 hx18 h=>Jh R R R C69 (kH (κ:=λb=>mp [] 1 (K6 b)) (p0:=p0) (p1:=p1) (Jl2 (g1_0.stp (S3.tr S7) R R) (mp [] 1) R R) (Jl2 (g1_1.stp (S3.tr S7) R R) (mp [] 1) R R) hx18) ?_))))⟩⟩)
 rintro _ w12 ⟨k13,am,al,an,ao,az,aw,rfl,e14,f15,f16,f17⟩
 obtain⟨K18,S19,m20,z21⟩:=Jj e14 4 R
 refine⟨tv,Jn 4 R (Jg1 (κ:=K18) 9 R R R R R X104 R λb7 w25 K26 S27 f28=>⟨tv,Jj1 (κ:=K26) 9 (vc:=[.slice am x18.1.Owner.length al,.slice an x18.1.Next.length ao]) R R R R R R R Z104 R R f28 R λw29 S30 f31=>⟨tv,Jb 2 R (Je [1,2,2,1,2,2,2,2,1,1,2,2] R (Jl tv R R R R (Jd2 (cs:=[.slice am x18.1.Owner.length al,.slice an x18.1.Next.length ao]) I104 Z104 R R R (haE f31.cells)) (Jn 2 R ?_)))⟩⟩)⟩
 obtain⟨K33,S34,z35⟩:=dg K26 w29 6
 obtain⟨K38,S39,z40⟩:=dg K33 w29 7
 obtain⟨K43,S44,z45⟩:=dg K38 w29 8
 refine Ob h λx26 hx26 h=>Jh R R R C70 (lV (κ:=λb=>mp [] 1 (K43 b)) (p0:=x18.1) (Jl2 ((Sl.st z35 ((f15.mx (bH _) m20 R (R:4+2=6)).stp (S27.tr S30) R R).rdc).stp (S39.tr S44) R R) (mp [] 1) R R) (Jl2 ((Sl.st z40 ((f16.mxz z21 m20 R (R:4+3=7)).stp (S27.tr (S30.tr S34)) R R).rdc).stp S44 R R) (mp [] 1) R R) (Jl2 (Sl.st z45 ((f17.mx Pair.no154 m20 R (R:4+4=8)).stp (S27.tr (S30.tr (S34.tr S39))) R R).rdc) (mp [] 1) R R) hx26) ?_
 rintro _ w49 ⟨k50,ak,af,ad,aa,ai,ac,ax,av,rfl,e51,f52,f53,f54,f55⟩
 obtain⟨K56,S57,m58,z59⟩:=Jj e51 10 R
 refine⟨tv,Jn 4 R (Jg1 (κ:=K56) 16 R R R R R X108 R λb10 w64 K65 S66 f67=>⟨tv,Jj1 (κ:=K65) 16 (vc:=[.slice ak x26.1.Arena.Owner.length af,.slice ad x26.1.Arena.Next.length aa,.slice ai x26.1.Prio.length ac]) R R R R R R R Z108 R R f67 R λw68 S69 f70=>⟨tv,Jb 2 R (Jq (Je3 R ?_))⟩⟩)⟩
 revert h
 cases ht71:(!x26.2.2)
 refine JF λh=>Jy R (Js (Jp (Jq (Js1 (κ:=K65) [16] none [(0,0),(1,0),(2,1),(3,1),(4,2),(5,2),(6,2),(7,2),(8,2)] [] (by kernel_rfl) (by kernel_rfl) λw74 S73=>?_))))
 have f75:=f70.stp S73 R R
 refine Jg R (Jd2 (cs:=[.slice ak x26.1.Arena.Owner.length af,.slice ad x26.1.Arena.Next.length aa,.slice ai x26.1.Prio.length ac]) I108 Z108 R R R (haC f75.cells R)) (Jg R (Jd2 (cs:=[.slice ak x26.1.Arena.Owner.length af,.slice ad x26.1.Arena.Next.length aa,.slice ai x26.1.Prio.length ac]) I108 Z108 R R R (haC f75.cells R)) (Ob h λx35 hx35 h=>?_))
 have f76:=(f52.mx (bH _) m58 R (R:10+2=12)).stp (S66.tr (S69.tr S73)) R R
 have f77:=(f53.mx (co (bH _) _) m58 R (R:10+3=13)).stp (S66.tr (S69.tr S73)) R R
 have f78:=(f54.mx (bH _) m58 R (R:10+4=14)).stp (S66.tr (S69.tr S73)) R R
 refine Jh R R R C199 (sj (κ:=Mk K65) (p0:=x26.1) (Ji3 f76.rdc) (Ji3 f77.rdc) (Ji3 f78.rdc) hx35) ?_
 rintro _ w79 ⟨k80,aq,ay,rfl,e81,f82⟩
 obtain⟨K83,S84,m85⟩:=Ji e81 17 R
 refine⟨(S84.cl R),Ob h λx36 hx36 h=>Jh R R R C198 (rO (κ:=Mk K83) (p0:=x26.1) (Ji3 (f76.stp S84 R R).rdc) (Ji3 (f77.stp S84 R R).rdc) (Ji3 (f78.stp S84 R R).rdc) (Ji3 (f82.mx (bH _) m85 R (R:17+2=19)).rdc) hx36) ?_⟩
 rintro _ w91 ⟨k92,ar,aA,ap,au,rfl,e93,f94,f95⟩
 obtain⟨K96,S97,m98⟩:=Ji e93 20 R
 refine⟨((S84.tr S97).cl R),Jn 5 R (Jt1 (Jd (Jg3 [2,1,1,2,2] 1 R (Ob h λx40 hx40 h=>Jh R R R C201 (jh (κ:=Mk K96) (Ji3 (f94.mx (bH _) m98 R (R:20+2=22)).rdc) hx40) ?_))))⟩
 rintro _ w102 ⟨k103,rfl,e104⟩
 obtain⟨K105,S106,m107⟩:=Ji e104 24 R
 refine⟨tv,Ob h λx41 hx41 h=>Jh R R R C200 (jK (κ:=Mk K105) hx41) ?_⟩
 rintro _ w109 ⟨k110,rfl,e111⟩
 obtain⟨K112,S113,m114⟩:=Ji e111 26 R
 refine⟨tv,Jb 2 R (Ju (Ja2 (l:=[.tmp 6]) V152 (Jp2 R R) R ?_))⟩
 cases h
 exact⟨K112,R,(hE.stp (S3.tr (S7.tr (S19.tr (S27.tr (S30.tr (S34.tr (S39.tr (S44.tr (S57.tr (S66.tr (S69.tr (S73.tr (S84.tr (S97.tr (S106.tr S113))))))))))))))) R R)⟩
 refine JT λh=>Jx R (Je3 R (Ju (Jw (Ja2 (l:=[.tmp 6]) V152 (Jp2 R R) R ?_))))
 cases h
 exact⟨K65,R,(hE.stp (S3.tr (S7.tr (S19.tr (S27.tr (S30.tr (S34.tr (S39.tr (S44.tr (S57.tr (S66.tr S69)))))))))) R R)⟩
theorem nN {w:World}{κ:Col}{p0:Sig}{ad aa ab ac}{p1:Det}(g1_0:Rd (Rp.sl (Rp.int .i64)) κ w 0 ad aa p1.Next) (g1_1:Rd Pair.rp κ w 0 ab ac p1.Pairs){r:Int}(h:gg p0 p1=some r):Ret Tryz.prog 96 [.agg #[vi p0.In,vi p0.Out],.agg #[.slice ad p1.Next.length aa,.slice ab p1.Pairs.length ac]] w (λv w'=>∃(κ':Col),v=vi r/\Ent κ w κ' w'):=by
 unfold gg at h
 refine Ret.enter F96 R N96 R ?_
 dsimp only[envOf]
 have hE:=Ent.refl κ w
 refine Je [1,1,2] R (Jf1 (κ:=κ) 2 R R R R R R R λb2 w1 K2 S3 f4=>⟨tv,Jf1 (κ:=K2) 3 R R R R R R R λb3 w5 K6 S7 f8=>⟨tv,Jb 1 R (Jq (Je [1,1,1,2] R ?_))⟩⟩)
 have f9:=f4.stp S7 R R
 refine Jl tv R R R R (Jd2 (cs:=[vi p0.In,vi p0.Out]) I25 Z25 R R R (haE f9.cells)) (Jl tv R R R R (Jd2 (cs:=[.slice ad p1.Next.length aa,.slice ab p1.Pairs.length ac]) I100 Z100 R R R (haE f8.cells)) (Ob h λx7 hx7 h=>?_))
 have f10:=g1_0.stp (S3.tr S7) R R
 have f11:=g1_1.stp (S3.tr S7) R R
 refine Jh R R R C117 (kw (κ:=Mk K6) (p0:=p0) (p1:=p1) (Ji3 f10) (Ji3 f11) hx7) ?_
 rintro _ w12 ⟨k13,rfl,e14⟩
 obtain⟨K15,S16,m17⟩:=Ji e14 4 R
 refine⟨tv,Jb 1 R ?_⟩
 revert h
 cases ht19:(!x7)
 refine JF λh=>Jy R (Js (Jp (Je [1,1,1,2] R (Jl tv R R R R (Jd2 (cs:=[vi p0.In,vi p0.Out]) I25 Z25 R R R (haE (f9.stp S16 R R).cells)) (Jl tv R R R R (Jd2 (cs:=[.slice ad p1.Next.length aa,.slice ab p1.Pairs.length ac]) I100 Z100 R R R (haE (f8.stp S16 R R).cells)) (Ob h λx11 hx11 h=>Jh R R R C152 (rj (κ:=Mk K15) (p0:=p0) (p1:=p1) (Ji3 (f10.stp S16 R R)) (Ji3 (f11.stp S16 R R)) hx11) ?_))))))
 rintro _ w25 ⟨k26,rfl,e27⟩
 obtain⟨K28,S29,m30⟩:=Ji e27 6 R
 refine⟨tv,Jb 1 R (Ju (Ja2 (l:=[.tmp 4]) V96 (Jp2 R R) R ?_))⟩
 cases h
 exact⟨K28,R,(hE.stp (S3.tr (S7.tr (S16.tr S29))) R R)⟩
 refine JT λh=>Jx R (Je3 R (Ju (Jw (Ja2 (l:=[.tmp 4]) V96 (Jp2 R R) R ?_))))
 cases h
 exact⟨K15,R,(hE.stp (S3.tr (S7.tr S16)) R R)⟩
theorem jR {w:World}{κ:Col}{ai af ah ae ak aj}{p0:Parity}{a1 u1}{p1:(List Int)}(g0_0_0:Rd (Rp.int .i64) κ w 0 ai af p0.Arena.Owner) (g0_0_1:Rd (Rp.sl (Rp.int .i64)) κ w 0 ah ae p0.Arena.Next) (g0_1:Rd (Rp.int .i64) κ w 0 ak aj p0.Prio) (g1:Rd (Rp.int .i64) κ w 0 a1 u1 p1){r:Answer×Bool}(h:jC p0 p1=some r):Ret Tryz.prog 126 [.agg #[.slice ai p0.Arena.Owner.length af,.slice ah p0.Arena.Next.length ae,.slice ak p0.Prio.length aj],.slice a1 p1.length u1] w (λv w'=>∃(κ':Col) (ra0:Option Addr) (ru0:Nat) (ra1:Option Addr) (ru1:Nat),v= .tuple #[.agg #[.slice ra0 r.1.Won.length ru0,.slice ra1 r.1.Plan.length ru1],.bool r.2]/\Ent κ w κ' w'/\Oc E6 2 κ' w' 2 ra0 ru0 r.1.Won/\Oc E6 2 κ' w' 3 ra1 ru1 r.1.Plan):=by
 unfold jC at h
 refine Ret.enter F126 R N126 R ?_
 dsimp only[envOf]
 have hE:=Ent.refl κ w
 refine Je [1,1,2] R (Jf1 (κ:=κ) 2 R R R R R R R λb2 w1 K2 S3 f4=>⟨tv,Jg1 (κ:=K2) 3 R R R R R X113 R λb4 w5 K6 S7 f8=>⟨tv,Jb 1 R (Jq (Je [1,2,1,2] R ?_))⟩⟩)
 have f9:=f4.stp S7 R R
 refine Jl tv R R R R (Jd2 (cs:=[.slice ai p0.Arena.Owner.length af,.slice ah p0.Arena.Next.length ae,.slice ak p0.Prio.length aj]) I108 Z108 R R R (haE f9.cells)) (Jn 1 R (Ob h λx15 hx15 h=>?_))
 have f10:=g0_0_0.stp (S3.tr S7) R R
 have f11:=g0_0_1.stp (S3.tr S7) R R
 have f12:=g0_1.stp (S3.tr S7) R R
 have f13:=g1.stp (S3.tr S7) R R
 refine Jh R R R C173 (o8 (κ:=Mk K6) (p0:=p0) (Ji3 f10) (Ji3 f11) (Ji3 f12) (Ji3 f13) hx15) ?_
 rintro _ w14 ⟨k15,rfl,e16⟩
 obtain⟨K17,S18,m19⟩:=Ji e16 4 R
 refine⟨tv,Jb 1 R ?_⟩
 revert h
 cases ht21:(!x15)
 refine JF λh=>Jy R (Js (Jp (Je [1,1,2] R ?_)))
 have f27:=f9.stp S18 R R
 refine Jl tv R R R R (Jd2 (cs:=[.slice ai p0.Arena.Owner.length af,.slice ah p0.Arena.Next.length ae,.slice ak p0.Prio.length aj]) I108 Z108 R R R (haE f27.cells)) (Ob h λx19 hx19 h=>?_)
 have f28:=f10.stp S18 R R
 have f29:=f11.stp S18 R R
 have f30:=f12.stp S18 R R
 refine Jh R R R C174 (mo (κ:=Mk K17) (p0:=p0) (Ji3 f28) (Ji3 f29) (Ji3 f30) hx19) ?_
 rintro _ w31 ⟨k32,aa,ab,rfl,e33,f34⟩
 obtain⟨K35,S36,m37⟩:=Ji e33 6 R
 refine⟨tv,?_⟩
 have f39:=f34.mx (bH _) m37 R (R:6+2=8)
 refine Jb 1 R (Je [1,1,1,1] R ?_)
 have f40:=f27.stp S36 R R
 refine Jl tv R R R R (Jd2 (cs:=[.slice ai p0.Arena.Owner.length af,.slice ah p0.Arena.Next.length ae,.slice ak p0.Prio.length aj]) I108 Z108 R R R (haE f40.cells)) (Ob h λx21 hx21 h=>?_)
 have f41:=f28.stp S36 R R
 refine Jh R R R C175 (ni (κ:=λb=>mp [] 1 (K35 b)) (p0:=p0) (Jl2 f41 (mp [] 1) R R) (Jl2 (f29.stp S36 R R) (mp [] 1) R R) (Jl2 (f30.stp S36 R R) (mp [] 1) R R) hx21) ?_
 rintro _ w44 ⟨k45,ar,au,az,aA,av,aw,ay,ax,ad,ac,rfl,e46,f47,f48,f49,f50,f51⟩
 obtain⟨K52,S53,m54,z55⟩:=Jj e46 9 R
 refine⟨tv,Jg1 (κ:=K52) 16 R R R R R X191 R λb7 w61 K62 S63 f64=>⟨tv,Jj1 (κ:=K62) 16 (vc:=[.slice ar x21.owner.length au,.slice az x21.prio.length aA,.slice av x21.next.length aw,.slice ay x21.prev.length ax,.slice ad x21.pick.length ac]) R R R R R R R Z191 R R f64 R λw65 S66 f67=>⟨tv,Jd (Jq (Je3 R ?_))⟩⟩⟩
 have hN68:(p1.length:Int)<=9223372036854775807:=f13.len_le
 refine Ob h λq2 hq70 hK69=>?_
 clear h
 refine Jx1 (λL w'=>∃κ',∃s3:(List Int),L=[(2,.pointer (some ⟨b2,0,none⟩)),(4,.pointer (some ⟨b4,0,none⟩)),(6,.slice aa x19.length ab),(7,.pointer (some ⟨b7,0,none⟩))]/\Stp [15] K62 w65 κ' w'/\Oc E6 2 κ' w' 15 ad ac s3/\x21.pick.length=s3.length/\q2=Sum.inr s3) ?_ ?_
 refine Jv (Jy1 (λk L w'=>∃κ' v8,∃s1:(List Int),L=[(1,.slice a1 p1.length u1),(2,.pointer (some ⟨b2,0,none⟩)),(4,.pointer (some ⟨b4,0,none⟩)),(6,.slice aa x19.length ab),(7,.pointer (some ⟨b7,0,none⟩)),(8,vi v8)]/\Stp [15] K62 w65 κ' w'/\Oc E6 2 κ' w' 15 ad ac s1/\x21.pick.length=s1.length/\0<=v8/\Int.toNat ((p1.length:Int)-v8)=k/\cntM (fp p0 p1 x19) k v8 s1=some q2) ⟨_,_,⟨K62,0,(x21.pick:(List Int)),R,Jj3,((f51.mx (bH _) m54 R (R:9+6=15)).stp (S63.tr S66) R R),R,(by decide),(by simp),hq70⟩,(KM R)⟩ ?_)
 rintro k _ w76 ⟨K77,v8,s1,rfl,S78,f79,hn80,hj68,hJ68,h⟩
 rcases k with _ | k
 have hk82:=h;obtain⟨o68,h⟩:=bO (Sum.inr (Sum.inl s1):(Answer×Bool)⊕(((List Int))⊕((List Int))))
 have hc68:decide (v8<(p1.length:Int))=false:=Jo2 (by omega)
 refine Jq (Jg3 [2,2,2,2] 2 R (Jf R (Je2 U29 R R) (Jb 1 R (Jw2 R hc68 (Jc1 (Jt (Jt ?_)))))))
 cases h
 have h:=hk82
 refine Jb1 ?_
 cases h
 exact Jw1 _ ⟨K77,(s1:(List Int)),R,S78.wk R,f79,hn80,R⟩ (KM R)
 obtain⟨o68,h,hk82⟩:=BI h;unfold fp at h
 have hc68:decide (v8<(p1.length:Int))=true:=Jn2 (by omega)
 refine Jq (Jg3 [2,2,2,2] 2 R (Jf R (Je2 U29 R R) (Jb 1 R (Jv2 R hc68 (Js (Jp (Jq (Jv (Jq (Jq (Js1 (κ:=K77) [0,2,8] none [(0,2),(1,2),(2,2),(3,0),(4,2),(5,2),(6,2),(7,2),(8,2),(10,2),(11,2),(13,2),(9,0),(12,0),(14,2),(15,0),(16,2),(17,2)] [] (by kernel_rfl) (by kernel_rfl) λw84 S83=>Jn 2 R (Ob h λx30 hx30 h=>Jc3 R f13 hx30 U29 Z2 ?_))))))))))))
 have f85:=f13.stp (S18.tr (S36.tr (S53.tr (S63.tr (S66.tr (S78.tr S83)))))) R R
 refine Jg R (Jc2 I2 R R (hvC (f85.gInt hx30) R)) (Jn 2 R (Ob h λp45 h hK86=>Ju1 [(6,2),(7,2),(8,2),(10,2),(11,2),(13,2),(9,0),(12,0),(14,2),(15,0),(16,2),(17,2)] [] (λL w'=>L=[(1,.slice a1 p1.length u1),(2,.pointer (some ⟨b2,0,none⟩)),(4,.pointer (some ⟨b4,0,none⟩)),(6,.slice aa x19.length ab),(7,.pointer (some ⟨b7,0,none⟩)),(8,vi v8),(45,.bool p45)]/\∃κ',Stp [] K77 w84 κ' w') (Cl.refl _ _ _) ?_ ?_))
 revert h
 cases ht87:(x30 !=(-1))
 refine JF λh=>Jn 6 R (Je1 R R R R (Je1 R R R R (Jn 1 R (Je1 R R R R (Jn 2 R ?_)))))
 cases h
 exact Jv1 _ (Cl.refl _ _ _) ⟨R,_,Jj3⟩ (KM R)
 have S001:=(S53.tr (S63.tr (S66.tr (S78.tr S83))))
 refine JT λh=>Jn 2 R (Ob h λx36 hx36 h=>Jc3 R f39.rdc hx36 U29 Z2 (Jd3 R U108 R Z104 (Jd3 R U104 R Z29 (Jn 1 R (Jg R (Jc2 I2 R R (hvC ((f39.stp S001 R R).rdc.gInt hx36) R)) (Jg R (Jc2 I29 R R (hvC ((f40.stp S001 R R).ld 0 R R) R)) (Ob h λx42 hx42 h=>Jc3 R f41 hx42 U29 Z2 (Jg R (Jc2 I2 R R (hvC ((f41.stp S001 R R).gInt hx42) R)) (Jn 2 R ?_)))))))))
 cases h
 exact Jv1 _ (Cl.refl _ _ _) ⟨R,_,Jj3⟩ (KM R)
 rintro _ w91 _ ⟨rfl,K92,S93⟩
 have h:=hK86
 refine Jt1 (Jd ?_)
 revert h
 cases ht94:p45
 refine JF λh=>Jy R (Js (Jp (Js1 (κ:=K92) [0,16] none [(0,2),(2,2),(3,2),(4,2),(5,2),(1,0),(6,0),(7,2),(8,1)] [] (by kernel_rfl) (by kernel_rfl) λw101 S100=>Jd3 R U191 R Z29 (Jn 3 R (Ob h λx52 hx52 h=>Jc3 R f85 hx52 U29 Z2 (Jg R (Jc2 I29 R R (hvC ((f67.stp (S78.tr (S83.tr (S93.tr S100))) R R).ld 4 R R) R)) (Jg R (Jc2 I2 R R (hvC ((f85.stp (S93.tr S100) R R).gInt hx52) R)) (Ob h λx54 hx54 h=>Jf R (Jf2 f79.rdc hx54 U29 Z2 R R hn80 R) (Ob h λy246 hy246 h=>Jk1 (κ:=K92) (E:=E6) 15 [] R R R R R R R R Z2 R R R R (f79.stp (S83.tr (S93.tr S100)) R R) hy246 λw105 K106 S107 f108=>⟨(S107.cl R),?_⟩)))))))))
 have hn109:x21.pick.length=y246.length:=hn80.trans (Jt2 hy246).2.2.2.symm
 refine Jt1 (Jo (Jz (Jp (Jf3 R ?_))))
 have hw68:t5 .i64 (v8+1)=v8+1:=wr1 hj68 (Jm2 hc68) hN68
 rw[hw68]
 have hc68:=Jm2 hc68
 cases h
 exact Jz1 λa ha=>⟨k,_,Ja3 _,⟨K106,v8+1,(y246:(List Int)),R,(S78.tr (S83.tr (S93.tr (S100.tr S107)))).wk R,f108,hn109,by omega,by omega,hk82⟩,(ha.mm R)⟩
 refine JT λh=>Jx R (Je [2,1,2] R (Jf R (bI (parts:=[]) (cells:=[.slice none 0 0,.slice none 0 0]) R R (by kernel_rfl)) (Jj1 (κ:=K92) 3 (vc:=[.slice none 0 0,.slice none 0 0]) R R R R R R R Z113 R R (f8.stp (S18.tr (S36.tr (S53.tr (S63.tr (S66.tr (S78.tr (S83.tr S93))))))) R R) R λw96 S97 f98=>⟨tv,Jb 1 R (Ju (Jw (Ja1 (Jw (Jw ?_)))))⟩)))
 cases h
 obtain rfl:=Option.some.inj hk82
 have h:=hK69
 dsimp only[aft]at h
 refine Ja1 (Jq2 (Jw (Ja2 (l:=[.cell 4 113,.tmp 5]) V126 (bL R f98 I113 Z113 R (Jp2 R R)) R ?_)))
 cases h
 exact⟨K92,none,0,none,0,R,(hE.stp (S3.tr (S7.tr (S18.tr (S36.tr (S53.tr (S63.tr (S66.tr (S78.tr (S83.tr (S93.tr S97)))))))))) R R),Ow.nil,Ow.nil⟩
 rintro _ w71 ⟨K72,s3,rfl,S73,f74,hn75,rfl⟩
 have h:=hK69
 dsimp only[aft]at h
 refine Jp (Jg3 [2,1,2] 1 R (Ob h λx56 hx56 h=>?_))
 have f110:=f39.stp (S53.tr (S63.tr (S66.tr S73))) R R
 refine Jh R R R C176 (lQ (κ:=Mk K72) (Ji3 f110.rdc) hx56) ?_
 rintro _ w111 ⟨k112,al,ao,rfl,e113,f114⟩
 obtain⟨K115,S116,m117⟩:=Ji e113 17 R
 refine⟨tv,Jb 1 R (Jg3 [2,1,2] 1 R (Ob h λx58 hx58 h=>?_))⟩
 have f120:=f110.stp S116 R R
 refine Jh R R R C176 (lQ (κ:=Mk K115) (Ji3 f120.rdc) hx58) ?_
 rintro _ w121 ⟨k122,an,am,rfl,e123,f124⟩
 obtain⟨K125,S126,m127⟩:=Ji e123 20 R
 refine⟨tv,Jb 1 R (Jq (Je3 R ?_))⟩
 obtain⟨K132,S133,z134⟩:=dg K125 w121 19
 obtain⟨K138,S139,z140⟩:=dg K132 w121 22
 have hN142:(x19.length:Int)<=9223372036854775807:=f120.len_le
 refine Ob h λq5 hq144 hK143=>?_
 clear h
 refine Jx1 (λL w'=>∃κ',∃s6:(List Int),L=[(4,.pointer (some ⟨b4,0,none⟩)),(6,.slice aa x19.length ab),(7,.pointer (some ⟨b7,0,none⟩))]/\Stp [15,25] K138 w121 κ' w'/\Oc E6 2 κ' w' 15 ad ac s6/\x21.pick.length=s6.length/\q5=Sum.inr s6) ?_ ?_
 refine Jv (Jy1 (λk L w'=>∃κ' v11,∃s4:(List Int),L=[(2,.pointer (some ⟨b2,0,none⟩)),(4,.pointer (some ⟨b4,0,none⟩)),(6,.slice aa x19.length ab),(7,.pointer (some ⟨b7,0,none⟩)),(9,.slice al x56.length ao),(10,.slice an x58.length am),(11,vi v11)]/\Stp [15,25] K138 w121 κ' w'/\Oc E6 2 κ' w' 15 ad ac s4/\x21.pick.length=s4.length/\0<=v11/\Int.toNat ((x19.length:Int)-v11)=k/\cntM (fj p0 x19 x21 x56 x58) k v11 s4=some q5) ⟨_,_,⟨K138,0,(s3:(List Int)),R,Jj3,(f74.stp (S116.tr (S126.tr (S133.tr S139))) R R),hn75,(by decide),(by simp),hq144⟩,(KM R)⟩ ?_)
 rintro k _ w150 ⟨K151,v11,s4,rfl,S152,f153,hn154,hj142,hJ142,h⟩
 rcases k with _ | k
 have hk156:=h;obtain⟨o142,h⟩:=bO (Sum.inr (Sum.inl s4):(Answer×Bool)⊕(((List Int))⊕((List Int))))
 have hc142:decide (v11<(x19.length:Int))=false:=Jo2 (by omega)
 refine Jq (Jg3 [2,2,2,2] 2 R (Jf R (Je2 U29 R R) (Jb 1 R (Jw2 R hc142 (Jc1 (Jt (Jt ?_)))))))
 cases h
 have h:=hk156
 refine Jb1 ?_
 cases h
 exact Jw1 _ ⟨K151,(s4:(List Int)),R,S152.wk R,f153,hn154,R⟩ (KM R)
 obtain⟨o142,h,hk156⟩:=BI h;unfold fj at h
 have hc142:decide (v11<(x19.length:Int))=true:=Jn2 (by omega)
 refine Jq (Jg3 [2,2,2,2] 2 R (Jf R (Je2 U29 R R) (Jb 1 R (Jv2 R hc142 (Js (Jp (Jq (Jv (Jq (Jq (Js1 (κ:=K151) [0,2,8,15,16] none [(0,2),(2,2),(1,0),(3,2),(4,0),(5,2),(6,2),(7,2),(8,2),(9,2),(11,2),(12,2),(14,2),(10,0),(13,0),(15,2),(16,0),(17,2),(18,2)] [] (by kernel_rfl) (by kernel_rfl) λw158 S157=>Jd3 R U191 R Z29 (Jn 1 R ?_))))))))))))
 have f159:=f67.stp (S73.tr (S116.tr (S126.tr (S133.tr (S139.tr (S152.tr S157)))))) R R
 refine Jg R (Jc2 I29 R R (hvC (f159.ld 4 R R) R)) (Ob h λx68 hx68 h=>Jf R (Jf2 f153.rdc hx68 U29 Z2 R R hn154 R) ?_)
 have f160:=f153.stp S157 R R
 refine Jg R (Jc2 I2 R R (hvC (f160.rdc.gInt hx68) R)) (Jn 2 R (Ob h λp83 h hK161=>Ju1 [(7,2),(8,2),(9,2),(11,2),(12,2),(14,2),(10,0),(13,0),(15,2),(16,0),(17,2),(18,2)] [] (λL w'=>L=[(2,.pointer (some ⟨b2,0,none⟩)),(4,.pointer (some ⟨b4,0,none⟩)),(6,.slice aa x19.length ab),(7,.pointer (some ⟨b7,0,none⟩)),(9,.slice al x56.length ao),(10,.slice an x58.length am),(11,vi v11),(83,.bool p83)]/\∃κ',Stp [] K151 w158 κ' w') (Cl.refl _ _ _) ?_ ?_))
 revert h
 cases ht162:decide (0<=x68)
 have S002:=(S53.tr (S63.tr (S66.tr (S73.tr (S116.tr (S126.tr (S133.tr (S139.tr (S152.tr S157)))))))))
 refine JF λh=>Jn 2 R (Ob h λx74 hx74 h=>Jc3 R f120.rdc hx74 U29 Z2 (Jd3 R U108 R Z104 (Jd3 R U104 R Z29 (Jn 1 R (Jg R (Jc2 I2 R R (hvC ((f120.stp (S126.tr (S133.tr (S139.tr (S152.tr S157)))) R R).rdc.gInt hx74) R)) (Jg R (Jc2 I29 R R (hvC ((f40.stp S002 R R).ld 0 R R) R)) (Ob h λx80 hx80 h=>Jc3 R f41 hx80 U29 Z2 (Jg R (Jc2 I2 R R (hvC ((f41.stp S002 R R).gInt hx80) R)) (Jn 2 R ?_)))))))))
 cases h
 exact Jv1 _ (Cl.refl _ _ _) ⟨R,_,Jj3⟩ (KM R)
 refine JT λh=>Jn 6 R (Je1 R R R R (Je1 R R R R (Jn 1 R (Je1 R R R R (Jn 2 R ?_)))))
 cases h
 exact Jv1 _ (Cl.refl _ _ _) ⟨R,_,Jj3⟩ (KM R)
 rintro _ w166 _ ⟨rfl,K167,S168⟩
 have h:=hK161
 refine Jt1 (Jd ?_)
 revert h
 cases ht169:p83
 refine JF λh=>Jy R (Js (Jp (Je3 R (Jq (Jg3 [2,2,2,1,2] 2 R (Ob h λx87 hx87 h=>Jc3 R f120.rdc hx87 U29 Z2 (Jb3 R I2 ((f120.stp (S126.tr (S133.tr (S139.tr (S152.tr (S157.tr S168))))) R R).rdc.gInt hx87) (Jb 1 R (Ob h λq7 h hK172=>Jx1 (λL w'=>∃κ' aq ap,L=[(2,.pointer (some ⟨b2,0,none⟩)),(4,.pointer (some ⟨b4,0,none⟩)),(6,.slice aa x19.length ab),(7,.pointer (some ⟨b7,0,none⟩)),(9,.slice al x56.length ao),(10,.slice an x58.length am),(11,vi v11),(12,.slice aq q7.length ap)]/\Stp [] K167 w166 κ' w'/\Rd Rp.bool κ' w' 0 aq ap q7) ?_ ?_)))))))))
 revert h
 cases ht177:(x87==1)
 refine JF λh=>Jy R (Js ?_)
 cases h
 exact Jw1 _ ⟨K167,al,ao,R,Jj3,((Sl.st z134 ((f114.mx cF m117 R (R:17+2=19)).stp S126 R R).rdc).stp (S139.tr (S152.tr (S157.tr S168))) R R)⟩ (KM R)
 refine JT λh=>Jx R (Jf3 R ?_)
 cases h
 exact Jw1 _ ⟨K167,an,am,R,Jj3,((Sl.st z140 ((f124.mx cF m127 R (R:20+2=22)).stp S133 R R).rdc).stp (S152.tr (S157.tr S168)) R R)⟩ (KM R)
 rintro _ w173 ⟨K174,aq,ap,rfl,S175,f176⟩
 have h:=hK172
 refine Jp (Js1 (κ:=K174) [16] none [(0,2),(2,2),(4,2),(5,2),(1,0),(3,0),(6,1),(7,2),(8,1)] [] (by kernel_rfl) (by kernel_rfl) λw181 S180=>Jd3 R U191 R Z29 (Jn 3 R ?_))
 have f182:=f159.stp (S168.tr (S175.tr S180)) R R
 have S003:=(S63.tr (S66.tr (S73.tr (S116.tr (S126.tr (S133.tr (S139.tr (S152.tr (S157.tr (S168.tr (S175.tr S180)))))))))))
 refine Jg R (Jc2 I29 R R (hvC (f182.ld 4 R R) R)) (Jg R (Jd2 (cs:=[.slice ar x21.owner.length au,.slice az x21.prio.length aA,.slice av x21.next.length aw,.slice ay x21.prev.length ax,.slice ad x21.pick.length ac]) I191 Z191 R R R (haC f182.cells R)) (Ob h λx97 hx97 h=>Jh R R R C177 (Ret.cast (by simp only[hn154,List.cons_append,List.nil_append]) (qO (κ:=λb=>mp [(15,2)] 0 (K174 b)) (p0:=(⟨x21.owner,x21.prio,x21.next,x21.prev,s4⟩:l7Game)) (Jl2 ((f47.mx z55).stp S003 R R) (mp [(15,2)] 0) R R) (Jl2 ((f48.mx z55).stp S003 R R) (mp [(15,2)] 0) R R) (Jl2 ((f49.mx z55).stp S003 R R) (mp [(15,2)] 0) R R) (Jl2 ((f50.mx (co (bH _) _) m54 R (R:9+5=14)).stp S003 R R).rdc (mp [(15,2)] 0) R R) ((f160.stp (S168.tr (S175.tr S180)) R R).map (mp [(15,2)] 0) R R) (Jl2 (f176.stp S180 R R) (mp [(15,2)] 0) R R) hx97)) ?_))
 rintro _ w189 ⟨k190,rfl,e191,f192,hn193⟩
 obtain⟨K194,S195,m196⟩:=Ji e191 23 R
 refine⟨(S195.cl R),?_⟩
 have f198:=f192.mx (bH _) m196 R (R:23+2=25)
 refine Ob h λx98 hx98 h=>Jf R (Jf2 f198.rdc hx98 U29 Z2 R R (hn154.trans hn193) R) (Ob h λy255 hy255 h=>Jk1 (κ:=K194) (E:=E6) 25 [] R R R R R R R R Z2 R R R R f198 hy255 λw199 K200 S201 f202=>⟨((S195.tr S201).cl R),?_⟩)
 have hn203:x21.pick.length=y255.length:=(hn154.trans hn193).trans (Jt2 hy255).2.2.2.symm
 refine Jt1 (Jo (Jz (Jp (Jf3 R ?_))))
 have hw142:t5 .i64 (v11+1)=v11+1:=wr1 hj142 (Jm2 hc142) hN142
 rw[hw142]
 have hc142:=Jm2 hc142
 cases h
 exact Jz1 λa ha=>⟨k,_,Ja3 _,⟨(λb=>ren [(25,15)] (K200 b)),v11+1,(y255:(List Int)),R,(Jy2 ((S152.tr (S157.tr (S168.tr (S175.tr (S180.tr (S195.tr S201)))))).wk R) [(25,15)] R),(f202.map (ren [(25,15)]) R R),hn203,by omega,by omega,hk156⟩,(ha.mm R)⟩
 refine JT λh=>Jx R (Jc1 (Jt (Jb1 (Jp (Jf3 R ?_)))))
 have hw142:t5 .i64 (v11+1)=v11+1:=wr1 hj142 (Jm2 hc142) hN142
 rw[hw142]
 have hc142:=Jm2 hc142
 cases h
 exact Jz1 λa ha=>⟨k,_,Ja3 _,⟨K167,v11+1,(s4:(List Int)),R,(S152.tr (S157.tr S168)).wk R,(f160.stp S168 R R),hn154,by omega,by omega,hk156⟩,(ha.mm R)⟩
 rintro _ w145 ⟨K146,s6,rfl,S147,f148,hn149,rfl⟩
 have h:=hK143
 dsimp only[aft]at h
 refine Jp (Jg3 [2,2,1,2,1,2] 1 R (Jd3 R U191 R Z29 (Jb3 R I29 ((f67.stp (S73.tr (S116.tr (S126.tr (S133.tr (S139.tr S147))))) R R).ld 4 R R) (Jf R (bI (parts:=[(0,.tmp 99),(1,.tmp 101)]) (cells:=[.slice aa x19.length ab,.slice ad x21.pick.length ac]) R R (by kernel_rfl)) (Jj1 (κ:=K146) 3 (vc:=[.slice aa x19.length ab,.slice ad x21.pick.length ac]) R R R R R R R Z113 R R (f8.stp (S18.tr (S36.tr (S53.tr (S63.tr (S66.tr (S73.tr (S116.tr (S126.tr (S133.tr (S139.tr S147)))))))))) R R) R λw206 S207 f208=>⟨tv,Jb 1 R (Ju (Ja2 (l:=[.cell 4 113,.tmp 5]) V126 (bL R f208 I113 Z113 R (Jp2 R R)) R ?_))⟩)))))
 cases h
 exact⟨(λb=>ren [(8,2),(15,3)] (K146 b)),aa,ab,ad,ac,(by simp only[hn149]),((hE.stp (S3.tr (S7.tr (S18.tr (S36.tr (S53.tr (S63.tr (S66.tr (S73.tr (S116.tr (S126.tr (S133.tr (S139.tr (S147.tr S207))))))))))))) R R).map (ren [(8,2),(15,3)]) R R),((f120.stp (S126.tr (S133.tr (S139.tr (S147.tr S207)))) R R).map (ren [(8,2),(15,3)]) R R),((f148.stp S207 R R).map (ren [(8,2),(15,3)]) R R)⟩
 refine JT λh=>Jx R (Je [2,1,2] R (Jf R (bI (parts:=[]) (cells:=[.slice none 0 0,.slice none 0 0]) R R (by kernel_rfl)) (Jj1 (κ:=K17) 3 (vc:=[.slice none 0 0,.slice none 0 0]) R R R R R R R Z113 R R (f8.stp S18 R R) R λw23 S24 f25=>⟨tv,Jb 1 R (Ju (Jw (Ja2 (l:=[.cell 4 113,.tmp 5]) V126 (bL R f25 I113 Z113 R (Jp2 R R)) R ?_)))⟩)))
 cases h
 exact⟨K17,none,0,none,0,R,(hE.stp (S3.tr (S7.tr (S18.tr S24))) R R),Ow.nil,Ow.nil⟩
theorem qJ {w:World}{κ:Col}{ao ak an aj al am}{p0:Parity}(g0_0_0:Rd (Rp.int .i64) κ w 0 ao ak p0.Arena.Owner) (g0_0_1:Rd (Rp.sl (Rp.int .i64)) κ w 0 an aj p0.Arena.Next) (g0_1:Rd (Rp.int .i64) κ w 0 al am p0.Prio){r:Answer}(h:jX p0=some r):Ret Tryz.prog 71 [.agg #[.slice ao p0.Arena.Owner.length ak,.slice an p0.Arena.Next.length aj,.slice al p0.Prio.length am]] w (λv w'=>∃(κ':Col) (ra0:Option Addr) (ru0:Nat) (ra1:Option Addr) (ru1:Nat),v= .agg #[.slice ra0 r.Won.length ru0,.slice ra1 r.Plan.length ru1]/\Ent κ w κ' w'/\Oc E6 2 κ' w' 2 ra0 ru0 r.Won/\Oc E6 2 κ' w' 3 ra1 ru1 r.Plan):=by
 unfold jX at h
 refine Ret.enter F71 R N71 R ?_
 dsimp only[envOf]
 have hE:=Ent.refl κ w
 refine Je [1,1] R (Jf1 (κ:=κ) 2 R R R R R R R λb1 w1 K2 S3 f4=>⟨tv,Jg1 (κ:=K2) 3 R R R R R X113 R λb2 w5 K6 S7 f8=>⟨tv,Jd (Jq (Je [1,1,2] R ?_))⟩⟩)
 have f9:=f4.stp S7 R R
 refine Jl tv R R R R (Jd2 (cs:=[.slice ao p0.Arena.Owner.length ak,.slice an p0.Arena.Next.length aj,.slice al p0.Prio.length am]) I108 Z108 R R R (haE f9.cells)) (Ob h λx6 hx6 h=>?_)
 have f10:=g0_0_0.stp (S3.tr S7) R R
 have f11:=g0_0_1.stp (S3.tr S7) R R
 have f12:=g0_1.stp (S3.tr S7) R R
 refine Jh R R R C125 (jT (κ:=Mk K6) (p0:=p0) (Ji3 f10) (Ji3 f11) (Ji3 f12) hx6) ?_
 rintro _ w13 ⟨k14,rfl,e15⟩
 obtain⟨K16,S17,m18⟩:=Ji e15 4 R
 refine⟨tv,Jb 1 R ?_⟩
 revert h
 cases ht20:(!x6)
 refine JF λh=>Jy R (Js (Jp (Jq (Ob h λx14 hx14 h=>Ob h λx15 hx15 h=>Jx1 (λL w'=>∃κ' b3 ai ae ah af,L=[(2,.pointer (some ⟨b2,0,none⟩)),(3,.pointer (some ⟨b3,0,none⟩))]/\Stp [6,9,11,12,13] K16 w13 κ' w'/\Oc E6 2 κ' w' 6 ai ae x15.1.Won/\Oc E6 2 κ' w' 7 ah af x15.1.Plan/\Bc κ' w' 8 b3 113 [.slice ai x15.1.Won.length ae,.slice ah x15.1.Plan.length af]) ?_ ?_))))
 refine WC.rxt (κ:=K16) [2] none (by kernel_rfl) λw33 S34=>Jq1 (fuel:=8) [(1,2),(0,0),(2,0),(3,2)] (by kernel_rfl) (by kernel_rfl) R (Jd3 R U108 R Z29 ?_)
 have f35:=f9.stp (S17.tr S34) R R
 refine Jg R (Jd2 (cs:=[.slice ao p0.Arena.Owner.length ak,.slice an p0.Arena.Next.length aj,.slice al p0.Prio.length am]) I108 Z108 R R R (haC f35.cells R)) (Jg R (Jc2 I29 R R (hvC (f35.ld 2 R R) R)) (Jf R (Je2 U29 R R) (Jp1 (WA.fork2 (fuel:=7) 4 9 (by kernel_rfl) R ?_ ?_))))
 refine Jh R R R C127 (nt (κ:=Mk K16) hx14) ?_
 rintro _ w36 ⟨k37,aq,ap,rfl,e38,f39⟩
 obtain⟨K40,S41,m42⟩:=Ji e38 6 R
 refine⟨(S41.cl R),?_⟩
 have f44:=f39.mx (bH _) m42 R (R:6+2=8)
 refine Jp1 (WA.fork2 (fuel:=6) 5 9 (by kernel_rfl) R ?_ ?_)
 have S001:=(S17.tr (S34.tr S41))
 refine Jh R R R C126 (jR (κ:=Mk K40) (p0:=p0) (Ji3 (f10.stp S001 R R)) (Ji3 (f11.stp S001 R R)) (Ji3 (f12.stp S001 R R)) (Ji3 f44.rdc) hx15) ?_
 rintro _ w48 ⟨k49,ad,ac,aa,ab,rfl,e50,f51,f52⟩
 obtain⟨K53,S54,m55⟩:=Ji e50 9 R
 exact⟨((S41.tr S54).cl R),Jp1 (Jq1 (fuel:=0) [(6,2),(7,2),(8,2),(9,1),(10,1),(11,2)] (by kernel_rfl) (by kernel_rfl) R (Jn 3 R (Jg1 (κ:=K53) 13 R R R R R X113 R λb3 w59 K60 S61 f62=>⟨((S41.tr (S54.tr S61)).cl R),Jj1 (κ:=K60) 13 (vc:=[.slice ad x15.1.Won.length ac,.slice aa x15.1.Plan.length ab]) R R R R R R R Z113 R R f62 R λw63 S64 f65=>⟨((S41.tr (S54.tr (S61.tr S64))).cl R),Jn 1 R (Jp1 (Jr1 [] (by kernel_rfl) (by kernel_rfl) R (Jo (Jw1 _ ⟨(λb=>ren [(11,6),(12,7),(13,8)] (K60 b)),b3,ad,ac,aa,ab,R,(Jy2 ((S34.tr (S41.tr (S54.tr (S61.tr S64)))).wk R) [(11,6),(12,7),(13,8)] R),(((f51.mx (bH _) m55 R (R:9+2=11)).stp (S61.tr S64) R R).map (ren [(11,6),(12,7),(13,8)]) R R),(((f52.mx (bH _) m55 R (R:9+3=12)).stp (S61.tr S64) R R).map (ren [(11,6),(12,7),(13,8)]) R R),(f65.map (ren [(11,6),(12,7),(13,8)]) R R)⟩ (KM R)))))⟩⟩)))⟩
 have S002:=(S17.tr (S34.tr S41))
 refine Jg1 (κ:=K40) 9 R R R R R X113 R λb3 w68 K69 S70 f71=>⟨((S41.tr S70).cl R),Jp1 (Jq1 (fuel:=0) [(5,1),(6,2),(7,2),(8,2),(10,1),(11,2)] (by kernel_rfl) (by kernel_rfl) R (Jh R R R C126 (jR (κ:=Mk K69) (p0:=p0) (Ji3 (f10.stp (S002.tr S70) R R)) (Ji3 (f11.stp (S002.tr S70) R R)) (Ji3 (f12.stp (S002.tr S70) R R)) (Ji3 (f44.stp S70 R R).rdc) hx15) ?_))⟩
 rintro _ w76 ⟨k77,ad,ac,aa,ab,rfl,e78,f79,f80⟩
 obtain⟨K81,S82,m83⟩:=Ji e78 10 R
 exact⟨((S41.tr (S70.tr S82)).cl R),Jn 3 R (Jj1 (κ:=K81) 9 (vc:=[.slice ad x15.1.Won.length ac,.slice aa x15.1.Plan.length ab]) R R R R R R R Z113 R R (f71.stp S82 R R) R λw88 S89 f90=>⟨((S41.tr (S70.tr (S82.tr S89))).cl R),Jn 1 R (Jp1 (Jr1 [] (by kernel_rfl) (by kernel_rfl) R (Jo (Jw1 _ ⟨(λb=>ren [(12,6),(13,7),(9,8)] (K81 b)),b3,ad,ac,aa,ab,R,(Jy2 ((S34.tr (S41.tr (S70.tr (S82.tr S89)))).wk R) [(12,6),(13,7),(9,8)] R),(((f79.mx (bH _) m83 R (R:10+2=12)).stp S89 R R).map (ren [(12,6),(13,7),(9,8)]) R R),(((f80.mx (bH _) m83 R (R:10+3=13)).stp S89 R R).map (ren [(12,6),(13,7),(9,8)]) R R),(f90.map (ren [(12,6),(13,7),(9,8)]) R R)⟩ (KM R)))))⟩)⟩
 refine Jg1 (κ:=K16) 6 R R R R R X113 R λb3 w93 K94 S95 f96=>⟨(S95.cl R),Jp1 (Jq1 (fuel:=0) [(4,1),(5,1),(6,2),(7,2),(8,2),(10,1),(11,2)] (by kernel_rfl) (by kernel_rfl) R (Jh R R R C127 (nt (κ:=Mk K94) hx14) ?_))⟩
 rintro _ w97 ⟨k98,aq,ap,rfl,e99,f100⟩
 obtain⟨K101,S102,m103⟩:=Ji e99 7 R
 have S003:=(S17.tr (S34.tr (S95.tr S102)))
 refine⟨((S95.tr S102).cl R),Jh R R R C126 (jR (κ:=Mk K101) (p0:=p0) (Ji3 (f10.stp S003 R R)) (Ji3 (f11.stp S003 R R)) (Ji3 (f12.stp S003 R R)) (Ji3 (f100.mx (bH _) m103 R (R:7+2=9)).rdc) hx15) ?_⟩
 rintro _ w109 ⟨k110,ad,ac,aa,ab,rfl,e111,f112,f113⟩
 obtain⟨K114,S115,m116⟩:=Ji e111 10 R
 exact⟨((S95.tr (S102.tr S115)).cl R),Jn 3 R (Jj1 (κ:=K114) 6 (vc:=[.slice ad x15.1.Won.length ac,.slice aa x15.1.Plan.length ab]) R R R R R R R Z113 R R (f96.stp (S102.tr S115) R R) R λw121 S122 f123=>⟨((S95.tr (S102.tr (S115.tr S122))).cl R),Jn 1 R (Jp1 (Jr1 [] (by kernel_rfl) (by kernel_rfl) R (Jo (Jw1 _ ⟨(λb=>ren [(12,6),(13,7),(6,8)] (K114 b)),b3,ad,ac,aa,ab,R,(Jy2 ((S34.tr (S95.tr (S102.tr (S115.tr S122)))).wk R) [(12,6),(13,7),(6,8)] R),(((f112.mx (bH _) m116 R (R:10+2=12)).stp S122 R R).map (ren [(12,6),(13,7),(6,8)]) R R),(((f113.mx (bH _) m116 R (R:10+3=13)).stp S122 R R).map (ren [(12,6),(13,7),(6,8)]) R R),(f123.map (ren [(12,6),(13,7),(6,8)]) R R)⟩ (KM R)))))⟩)⟩
 rintro _ w26 ⟨K27,b3,ai,ae,ah,af,rfl,S28,f30,f31,f32⟩
 refine Jp (Je [1,1] R (Jl tv R R R R (Jd2 (cs:=[.slice ai x15.1.Won.length ae,.slice ah x15.1.Plan.length af]) I113 Z113 R R R (haE f32.cells)) (Jj1 (κ:=K27) 3 (vc:=[.slice ai x15.1.Won.length ae,.slice ah x15.1.Plan.length af]) R R R R R R R Z113 R R (f8.stp (S17.tr S28) R R) R λw127 S128 f129=>⟨tv,Jd (Ju (Ja2 (l:=[.cell 2 113]) V71 (bL R f129 I113 Z113 R R) R ?_))⟩)))
 cases h
 exact⟨(λb=>ren [(6,2),(7,3)] (K27 b)),ai,ae,ah,af,R,((hE.stp (S3.tr (S7.tr (S17.tr (S28.tr S128)))) R R).map (ren [(6,2),(7,3)]) R R),((f30.stp S128 R R).map (ren [(6,2),(7,3)]) R R),((f31.stp S128 R R).map (ren [(6,2),(7,3)]) R R)⟩
 refine JT λh=>Jx R (Je [2,1] R (Jf R (bI (parts:=[]) (cells:=[.slice none 0 0,.slice none 0 0]) R R (by kernel_rfl)) (Jj1 (κ:=K16) 3 (vc:=[.slice none 0 0,.slice none 0 0]) R R R R R R R Z113 R R (f8.stp S17 R R) R λw22 S23 f24=>⟨tv,Jd (Ju (Jw (Ja2 (l:=[.cell 2 113]) V71 (bL R f24 I113 Z113 R R) R ?_)))⟩)))
 cases h
 exact⟨K16,none,0,none,0,R,(hE.stp (S3.tr (S7.tr (S17.tr S23))) R R),Ow.nil,Ow.nil⟩
theorem nB {w:World}{κ:Col}{p0:Sig}{ab ac aa ad}{p1:Det}(g1_0:Rd (Rp.sl (Rp.int .i64)) κ w 0 ab ac p1.Next) (g1_1:Rd Pair.rp κ w 0 aa ad p1.Pairs){r:Int}(h:gq p0 p1=some r):Ret Tryz.prog 97 [.agg #[vi p0.In,vi p0.Out],.agg #[.slice ab p1.Next.length ac,.slice aa p1.Pairs.length ad]] w (λv w'=>∃(κ':Col),v=vi r/\Ent κ w κ' w'):=by
 unfold gq at h
 refine Ret.enter F97 R N97 R ?_
 dsimp only[envOf]
 have hE:=Ent.refl κ w
 refine Je [1,1,2] R (Jf1 (κ:=κ) 2 R R R R R R R λb2 w1 K2 S3 f4=>⟨tv,Jf1 (κ:=K2) 3 R R R R R R R λb3 w5 K6 S7 f8=>⟨tv,Jb 1 R (Jq (Je [1,1,2,2,1,1,1,2,2] R ?_))⟩⟩)
 have f9:=f4.stp S7 R R
 refine Jl tv R R R R (Jd2 (cs:=[vi p0.In,vi p0.Out]) I25 Z25 R R R (haE f9.cells)) (Ob h λx8 hx8 h=>Jh R R R C48 (oC (κ:=Mk K6) (p0:=p0) hx8) ?_)
 rintro _ w10 ⟨k11,rfl,e12⟩
 obtain⟨K13,S14,m15⟩:=Ji e12 4 R
 refine⟨tv,Jn 2 R (Ob h λp15 h hK17=>Ju1 [(4,1),(5,1),(6,1),(7,2),(8,2)] [] (λL w'=>L=[(2,.pointer (some ⟨b2,0,none⟩)),(3,.pointer (some ⟨b3,0,none⟩)),(15,.bool p15)]/\∃κ',Stp [] K13 w10 κ' w') tv ?_ ?_)⟩
 revert h
 cases ht18:(!x8)
 refine JF λh=>Jl tv R R R R (Jd2 (cs:=[vi p0.In,vi p0.Out]) I25 Z25 R R R (haE (f9.stp S14 R R).cells)) (Jl tv R R R R (Jd2 (cs:=[.slice ab p1.Next.length ac,.slice aa p1.Pairs.length ad]) I100 Z100 R R R (haE (f8.stp S14 R R).cells)) (Ob h λx13 hx13 h=>Jh R R R C150 (sk (κ:=Mk K13) (p0:=p0) (p1:=p1) (Ji3 (g1_0.stp (S3.tr (S7.tr S14)) R R)) (Ji3 (g1_1.stp (S3.tr (S7.tr S14)) R R)) hx13) ?_))
 rintro _ w23 ⟨k24,rfl,e25⟩
 obtain⟨K26,S27,m28⟩:=Ji e25 6 R
 refine⟨tv,Jn 2 R ?_⟩
 cases h
 exact Jv1 _ tv ⟨R,_,S27.wk R⟩ (KM R)
 refine JT λh=>Jd1 R R R R (Jd1 R R R R (Jd1 R R R R (Jn 2 R ?_)))
 cases h
 exact Jv1 _ tv ⟨R,_,Jj3⟩ (KM R)
 rintro _ w30 _ ⟨rfl,K31,S32⟩
 have h:=hK17
 refine Jd ?_
 revert h
 cases ht33:p15
 have S001:=(S3.tr (S7.tr (S14.tr S32)))
 refine JF λh=>Jy R (Js (Jp (Je [1,1,1,2,2,2,1,1,2] R (Jl tv R R R R (Jd2 (cs:=[vi p0.In,vi p0.Out]) I25 Z25 R R R (haE (f9.stp (S14.tr S32) R R).cells)) (Jl tv R R R R (Jd2 (cs:=[.slice ab p1.Next.length ac,.slice aa p1.Pairs.length ad]) I100 Z100 R R R (haE (f8.stp (S14.tr S32) R R).cells)) (Ob h λx19 hx19 h=>Jh R R R C78 (lc (κ:=Mk K31) (p0:=p0) (p1:=p1) (Ji3 (g1_0.stp S001 R R)) (Ji3 (g1_1.stp S001 R R)) hx19) ?_))))))
 rintro _ w39 ⟨k40,ah,af,ai,ae,aj,ak,rfl,e41,f42,f43,f44⟩
 obtain⟨K45,S46,m47⟩:=Ji e41 6 R
 refine⟨tv,Jn 3 R (Jg1 (κ:=K45) 11 R R R R R X104 R λb5 w52 K53 S54 f55=>⟨tv,Jj1 (κ:=K53) 11 (vc:=[.slice ah x19.1.Owner.length af,.slice ai x19.1.Next.length ae]) R R R R R R R Z104 R R f55 R λw56 S57 f58=>⟨tv,Jb 1 R (Je [1,2,1,2] R (Jl tv R R R R (Jd2 (cs:=[.slice ah x19.1.Owner.length af,.slice ai x19.1.Next.length ae]) I104 Z104 R R R (haE f58.cells)) (Jn 1 R (Ob h λx24 hx24 h=>Jh R R R C153 (ng (κ:=Mk K53) (p0:=x19.1) (Ji3 ((f42.mx (bH _) m47 R (R:6+2=8)).stp (S54.tr S57) R R).rdc) (Ji3 ((f43.mx (co (bH _) _) m47 R (R:6+3=9)).stp (S54.tr S57) R R).rdc) (Ji3 ((f44.mx Pair.no154 m47 R (R:6+4=10)).stp (S54.tr S57) R R).rdc) hx24) ?_))))⟩⟩)⟩
 rintro _ w62 ⟨k63,rfl,e64⟩
 obtain⟨K65,S66,m67⟩:=Ji e64 12 R
 refine⟨tv,Jb 1 R (Ju (Ja2 (l:=[.tmp 4]) V97 (Jp2 R R) R ?_))⟩
 cases h
 exact⟨K65,R,(hE.stp (S3.tr (S7.tr (S14.tr (S32.tr (S46.tr (S54.tr (S57.tr S66))))))) R R)⟩
 refine JT λh=>Jx R (Je3 R (Ju (Jw (Ja2 (l:=[.tmp 4]) V97 (Jp2 R R) R ?_))))
 cases h
 exact⟨K31,R,(hE.stp (S3.tr (S7.tr (S14.tr S32))) R R)⟩
theorem m9 {w:World}{κ:Col}{p0:Sig}{a1 u1}{p1:(List Clause)}(g1:Rd Clause.rp κ w 0 a1 u1 p1){r:Bool}(h:fh p0 p1=some r):Ret Tryz.prog 37 [.agg #[vi p0.In,vi p0.Out],.slice a1 p1.length u1] w (λv w'=>∃(κ':Col),v= .bool r/\Ent κ w κ' w'):=by
 unfold fh at h
 refine Ret.enter F37 R N37 R ?_
 dsimp only[envOf]
 have hE:=Ent.refl κ w
 refine Je [1,2] R (Jf1 (κ:=κ) 2 R R R R R R R λb2 w1 K2 S3 f4=>⟨tv,Jb 1 R (Je [1,2,1,2,2,2,1,1,2] R (Jl tv R R R R (Jd2 (cs:=[vi p0.In,vi p0.Out]) I25 Z25 R R R (haE f4.cells)) (Jn 1 R (Ob h λx10 hx10 h=>Jh R R R C77 (lb (κ:=Mk K2) (p0:=p0) (Ji3 (g1.stp S3 R R)) hx10) ?_))))⟩)
 rintro _ w6 ⟨k7,ac,aa,ab,ad,rfl,e8,f9,f10⟩
 obtain⟨K11,S12,m13⟩:=Ji e8 3 R
 refine⟨tv,Jn 3 R (Jg1 (κ:=K11) 7 R R R R R X100 R λb5 w17 K18 S19 f20=>⟨tv,Jj1 (κ:=K18) 7 (vc:=[.slice ac x10.1.Next.length aa,.slice ab x10.1.Pairs.length ad]) R R R R R R R Z100 R R f20 R λw21 S22 f23=>⟨tv,Jb 1 R (Jg3 [2,2,1,1,1,2,2,2] 2 R (Ob h λp19 h hK24=>Ju1 [(2,1),(3,1),(4,1),(5,2),(6,2)] [(7,2)] (λL w'=>L=[(4,.bool false),(19,.bool p19)]/\∃κ',Stp [] K18 w21 κ' w') tv ?_ ?_))⟩⟩)⟩
 revert h
 cases ht25:x10.2
 refine JF λh=>Jd1 R R R R (Jd1 R R R R (Jd1 R R R R (Jn 2 R ?_)))
 cases h
 exact Jv1 _ tv ⟨R,_,Jj3⟩ (KM R)
 refine JT λh=>Jl tv R R R R (Jd2 (cs:=[vi p0.In,vi p0.Out]) I25 Z25 R R R (haE (f4.stp (S12.tr (S19.tr S22)) R R).cells)) (Jl tv R R R R (Jd2 (cs:=[.slice ac x10.1.Next.length aa,.slice ab x10.1.Pairs.length ad]) I100 Z100 R R R (haE f23.cells)) (Ob h λx17 hx17 h=>Jh R R R C97 (nB (κ:=Mk K18) (p0:=p0) (p1:=x10.1) (Ji3 ((f9.mx (co (bH _) _) m13 R (R:3+2=5)).stp (S19.tr S22) R R).rdc) (Ji3 ((f10.mx Pair.no154 m13 R (R:3+3=6)).stp (S19.tr S22) R R).rdc) hx17) ?_))
 rintro _ w29 ⟨k30,rfl,e31⟩
 obtain⟨K32,S33,m34⟩:=Ji e31 8 R
 refine⟨tv,Jn 2 R ?_⟩
 cases h
 exact Jv1 _ tv ⟨R,_,S33.wk R⟩ (KM R)
 rintro _ w36 _ ⟨rfl,K37,S38⟩
 have h:=hK24
 refine Jb 1 R (Ju (Ja2 (l:=[.tmp 4]) V37 (Jp2 R R) R ?_))
 cases h
 exact⟨K37,R,(hE.stp (S3.tr (S12.tr (S19.tr (S22.tr S38)))) R R)⟩
theorem n8 {w:World}{κ:Col}{p0:Sig}{a1 u1}{p1:(List Clause)}(g1:Rd Clause.rp κ w 0 a1 u1 p1){r:Rival×Bool}(h:fO p0 p1=some r):Ret Tryz.prog 21 [.agg #[vi p0.In,vi p0.Out],.slice a1 p1.length u1] w (λv w'=>∃(κ':Col) (ra0:Option Addr) (ru0:Nat) (ra1:Option Addr) (ru1:Nat),v= .tuple #[.agg #[.slice ra0 r.1.In.length ru0,.slice ra1 r.1.Next.length ru1],.bool r.2]/\Ent κ w κ' w'/\Oc E6 2 κ' w' 2 ra0 ru0 r.1.In/\Oc (Ep.own E6 2) 29 κ' w' 3 ra1 ru1 r.1.Next):=by
 unfold fO at h
 refine Ret.enter F21 R N21 R ?_
 dsimp only[envOf]
 have hE:=Ent.refl κ w
 refine Je [1,1,2] R (Jf1 (κ:=κ) 2 R R R R R R R λb2 w1 K2 S3 f4=>⟨tv,Jg1 (κ:=K2) 3 R R R R R X31 R λb4 w5 K6 S7 f8=>⟨tv,Jb 1 R (Je [1,2,1,2,2,2,1,1,2] R ?_)⟩⟩)
 have f9:=f4.stp S7 R R
 refine Jl tv R R R R (Jd2 (cs:=[vi p0.In,vi p0.Out]) I25 Z25 R R R (haE f9.cells)) (Jn 1 R (Ob h λx15 hx15 h=>Jh R R R C77 (lb (κ:=Mk K6) (p0:=p0) (Ji3 (g1.stp (S3.tr S7) R R)) hx15) ?_))
 rintro _ w11 ⟨k12,af,ab,ah,ak,rfl,e13,f14,f15⟩
 obtain⟨K16,S17,m18⟩:=Ji e13 4 R
 refine⟨tv,Jn 3 R (Jg1 (κ:=K16) 8 R R R R R X100 R λb6 w22 K23 S24 f25=>⟨tv,Jj1 (κ:=K23) 8 (vc:=[.slice af x15.1.Next.length ab,.slice ah x15.1.Pairs.length ak]) R R R R R R R Z100 R R f25 R λw26 S27 f28=>⟨tv,Jb 1 R (Jq (Je3 R ?_))⟩⟩)⟩
 revert h
 cases ht29:(!x15.2)
 refine JF λh=>Jy R (Js (Jp (Je [1,1,1,2,2,2,1,1,2] R ?_)))
 have f35:=f9.stp (S17.tr (S24.tr S27)) R R
 refine Jl tv R R R R (Jd2 (cs:=[vi p0.In,vi p0.Out]) I25 Z25 R R R (haE f35.cells)) (Jl tv R R R R (Jd2 (cs:=[.slice af x15.1.Next.length ab,.slice ah x15.1.Pairs.length ak]) I100 Z100 R R R (haE f28.cells)) (Ob h λx24 hx24 h=>?_))
 have f36:=(f14.mx (co (bH _) _) m18 R (R:4+2=6)).stp (S24.tr S27) R R
 have f37:=(f15.mx Pair.no154 m18 R (R:4+3=7)).stp (S24.tr S27) R R
 refine Jh R R R C78 (lc (κ:=Mk K23) (p0:=p0) (p1:=x15.1) (Ji3 f36.rdc) (Ji3 f37.rdc) hx24) ?_
 rintro _ w38 ⟨k39,am,an,ar,al,ay,az,rfl,e40,f41,f42,f43⟩
 obtain⟨K44,S45,m46⟩:=Ji e40 9 R
 refine⟨tv,Jn 3 R (Jg1 (κ:=K44) 14 R R R R R X104 R λb8 w51 K52 S53 f54=>⟨tv,Jj1 (κ:=K52) 14 (vc:=[.slice am x24.1.Owner.length an,.slice ar x24.1.Next.length al]) R R R R R R R Z104 R R f54 R λw55 S56 f57=>⟨tv,Jb 1 R (Je [1,2,1,2,2,2,2,1,1,2,2] R (Jl tv R R R R (Jd2 (cs:=[.slice am x24.1.Owner.length an,.slice ar x24.1.Next.length al]) I104 Z104 R R R (haE f57.cells)) (Jn 1 R ?_)))⟩⟩)⟩
 obtain⟨K59,S60,z61⟩:=dg K52 w55 11
 obtain⟨K64,S65,z66⟩:=dg K59 w55 12
 obtain⟨K69,S70,z71⟩:=dg K64 w55 13
 refine Ob h λx30 hx30 h=>Jh R R R C79 (mc (κ:=λb=>mp [] 1 (K69 b)) (p0:=x24.1) (Jl2 ((Sl.st z61 ((f41.mx (bH _) m46 R (R:9+2=11)).stp (S53.tr S56) R R).rdc).stp (S65.tr S70) R R) (mp [] 1) R R) (Jl2 ((Sl.st z66 ((f42.mx (co (bH _) _) m46 R (R:9+3=12)).stp (S53.tr (S56.tr S60)) R R).rdc).stp S70 R R) (mp [] 1) R R) (Jl2 (Sl.st z71 ((f43.mx Pair.no154 m46 R (R:9+4=13)).stp (S53.tr (S56.tr (S60.tr S65))) R R).rdc) (mp [] 1) R R) hx30) ?_
 rintro _ w75 ⟨k76,ai,ae,aj,aa,ac,ad,av,aw,rfl,e77,f78,f79,f80,f81⟩
 obtain⟨K82,S83,m84,z85⟩:=Jj e77 15 R
 refine⟨tv,?_⟩
 have f86:=f78.mx (bH _) m84 R (R:15+2=17)
 have f87:=f79.mxz z85 m84 R (R:15+3=18)
 have f88:=f80.mx (bH _) m84 R (R:15+4=19)
 refine Jn 4 R (Jg1 (κ:=K82) 21 R R R R R X108 R λb10 w90 K91 S92 f93=>⟨tv,Jj1 (κ:=K91) 21 (vc:=[.slice ai x30.1.Arena.Owner.length ae,.slice aj x30.1.Arena.Next.length aa,.slice ac x30.1.Prio.length ad]) R R R R R R R Z108 R R f93 R λw94 S95 f96=>⟨tv,Jb 2 R (Jq (Jg3 [2,2,2,1,1,2,1,2,2] 3 R (Ob h λp42 h hK97=>Ju1 [(3,1),(4,1),(5,2),(6,1),(7,2),(8,2)] [] (λL w'=>L=[(2,.pointer (some ⟨b2,0,none⟩)),(4,.pointer (some ⟨b4,0,none⟩)),(6,.pointer (some ⟨b6,0,none⟩)),(10,.pointer (some ⟨b10,0,none⟩)),(11,.slice av x30.2.1.length aw),(42,.bool p42)]/\∃κ',Stp [] K91 w94 κ' w') tv ?_ ?_)))⟩⟩)
 revert h
 cases ht98:(!x30.2.2)
 refine JF λh=>Jl tv R R R R (Jd2 (cs:=[.slice ai x30.1.Arena.Owner.length ae,.slice aj x30.1.Arena.Next.length aa,.slice ac x30.1.Prio.length ad]) I108 Z108 R R R (haE f96.cells)) (Ob h λx38 hx38 h=>Jh R R R C80 (kp (κ:=Mk K91) (p0:=x30.1) (Ji3 (f86.stp (S92.tr S95) R R).rdc) (Ji3 (f87.stp (S92.tr S95) R R).rdc) (Ji3 (f88.stp (S92.tr S95) R R).rdc) hx38) ?_)
 rintro _ w102 ⟨k103,aA,ax,rfl,e104,f105⟩
 obtain⟨K106,S107,m108⟩:=Ji e104 22 R
 refine⟨tv,?_⟩
 have f110:=f105.mx (bH _) m108 R (R:22+2=24)
 refine Ob h λx39 hx39 h=>Jc3 R f110.rdc hx39 U29 Z2 (Jb3 R I2 (f110.rdc.gInt hx39) (Jn 2 R ?_))
 cases h
 exact Jv1 _ tv ⟨R,_,S107.wk R⟩ (KM R)
 refine JT λh=>Jd1 R R R R (Jd1 R R R R (Jn 1 R (Jd1 R R R R (Jn 2 R ?_))))
 cases h
 exact Jv1 _ tv ⟨R,_,Jj3⟩ (KM R)
 rintro _ w111 _ ⟨rfl,K112,S113⟩
 have h:=hK97
 refine Jd ?_
 revert h
 cases ht114:p42
 have S001:=(S45.tr (S53.tr (S56.tr (S60.tr (S65.tr (S70.tr (S83.tr (S92.tr (S95.tr S113)))))))))
 have S002:=(S92.tr (S95.tr S113))
 refine JF λh=>Jy R (Js (Jp (Je [1,1,1,2,1,1,2] R (Jl tv R R R R (Jd2 (cs:=[vi p0.In,vi p0.Out]) I25 Z25 R R R (haE (f35.stp S001 R R).cells)) (Jl tv R R R R (Jd2 (cs:=[.slice af x15.1.Next.length ab,.slice ah x15.1.Pairs.length ak]) I100 Z100 R R R (haE (f28.stp S001 R R).cells)) (Jl tv R R R R (Jd2 (cs:=[.slice ai x30.1.Arena.Owner.length ae,.slice aj x30.1.Arena.Next.length aa,.slice ac x30.1.Prio.length ad]) I108 Z108 R R R (haE (f96.stp S113 R R).cells)) (Jn 1 R (Ob h λx48 hx48 h=>Jh R R R C81 (oa (κ:=Mk K112) (p0:=p0) (p1:=x15.1) (p2:=x30.1) (Ji3 (f36.stp S001 R R).rdc) (Ji3 (f37.stp S001 R R).rdc) (Ji3 (f86.stp S002 R R).rdc) (Ji3 (f87.stp S002 R R).rdc) (Ji3 (f88.stp S002 R R).rdc) (Ji3 ((f81.mxz z85 m84 R (R:15+5=20)).stp S002 R R).rdc) hx48) ?_))))))))
 rintro _ w129 ⟨k130,au,aq,ap,ao,rfl,e131,f132,f133⟩
 obtain⟨K134,S135,m136⟩:=Ji e131 22 R
 refine⟨tv,Jj1 (κ:=K134) 3 (vc:=[.slice au x48.In.length aq,.slice ap x48.Next.length ao]) R R R R R R R Z31 R R (f8.stp (S17.tr (S24.tr (S27.tr (S45.tr (S53.tr (S56.tr (S60.tr (S65.tr (S70.tr (S83.tr (S92.tr (S95.tr (S113.tr S135))))))))))))) R R) R λw141 S142 f143=>⟨tv,Jb 1 R (Ju (Ja2 (l:=[.cell 4 31,.tmp 5]) V21 (bL R f143 I31 Z31 R (Jp2 R R)) R ?_))⟩⟩
 cases h
 exact⟨(λb=>ren [(24,2),(25,3)] (K134 b)),au,aq,ap,ao,R,((hE.stp (S3.tr (S7.tr (S17.tr (S24.tr (S27.tr (S45.tr (S53.tr (S56.tr (S60.tr (S65.tr (S70.tr (S83.tr (S92.tr (S95.tr (S113.tr (S135.tr S142)))))))))))))))) R R).map (ren [(24,2),(25,3)]) R R),(((f132.mx (bH _) m136 R (R:22+2=24)).stp S142 R R).map (ren [(24,2),(25,3)]) R R),(((f133.mx (co (bH _) _) m136 R (R:22+3=25)).stp S142 R R).map (ren [(24,2),(25,3)]) R R)⟩
 refine JT λh=>Jx R (Je [2,1,2] R (Jf R (bI (parts:=[]) (cells:=[.slice none 0 0,.slice none 0 0]) R R (by kernel_rfl)) (Jj1 (κ:=K112) 3 (vc:=[.slice none 0 0,.slice none 0 0]) R R R R R R R Z31 R R (f8.stp (S17.tr (S24.tr (S27.tr (S45.tr (S53.tr (S56.tr (S60.tr (S65.tr (S70.tr (S83.tr (S92.tr (S95.tr S113)))))))))))) R R) R λw116 S117 f118=>⟨tv,Jb 1 R (Ju (Jw (Ja2 (l:=[.cell 4 31,.tmp 5]) V21 (bL R f118 I31 Z31 R (Jp2 R R)) R ?_)))⟩)))
 cases h
 exact⟨K112,none,0,none,0,R,(hE.stp (S3.tr (S7.tr (S17.tr (S24.tr (S27.tr (S45.tr (S53.tr (S56.tr (S60.tr (S65.tr (S70.tr (S83.tr (S92.tr (S95.tr (S113.tr S117))))))))))))))) R R),Ow.nil,Ow.nil⟩
 refine JT λh=>Jx R (Je [2,1,2] R (Jf R (bI (parts:=[]) (cells:=[.slice none 0 0,.slice none 0 0]) R R (by kernel_rfl)) (Jj1 (κ:=K23) 3 (vc:=[.slice none 0 0,.slice none 0 0]) R R R R R R R Z31 R R (f8.stp (S17.tr (S24.tr S27)) R R) R λw31 S32 f33=>⟨tv,Jb 1 R (Ju (Jw (Ja2 (l:=[.cell 4 31,.tmp 5]) V21 (bL R f33 I31 Z31 R (Jp2 R R)) R ?_)))⟩)))
 cases h
 exact⟨K23,none,0,none,0,R,(hE.stp (S3.tr (S7.tr (S17.tr (S24.tr (S27.tr S32))))) R R),Ow.nil,Ow.nil⟩
end Go.Proofs.YtpcjbkgbnoocaaaGreat
