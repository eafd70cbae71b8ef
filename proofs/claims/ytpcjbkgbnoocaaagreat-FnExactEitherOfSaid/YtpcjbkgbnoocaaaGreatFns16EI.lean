/- The walks, part 16. By program. -/
import Derived.Test.YtpcjbkgbnoocaaaGreatFns13EI
import Derived.Test.YtpcjbkgbnoocaaaGreatFns14EI
set_option linter.unusedVariables false
set_option linter.unusedSimpArgs false
open Int renaming toNat → vH
namespace Go.Proofs.YtpcjbkgbnoocaaaGreat
open Go Go.Wk Go.Proofs
set_option maxRecDepth 100000
set_option maxHeartbeats 1000000
theorem o8 {w:World}{κ:Col}{af ab ae aa ac ad}{p0:Parity}{a1 u1}{p1:(List Int)}(g0_0_0:Rd (Rp.int .i64) κ w 0 af ab p0.Arena.Owner) (g0_0_1:Rd (Rp.sl (Rp.int .i64)) κ w 0 ae aa p0.Arena.Next) (g0_1:Rd (Rp.int .i64) κ w 0 ac ad p0.Prio) (g1:Rd (Rp.int .i64) κ w 0 a1 u1 p1){r:Bool}(h:ja p0 p1=some r):Ret Tryz.prog 173 [.agg #[.slice af p0.Arena.Owner.length ab,.slice ae p0.Arena.Next.length aa,.slice ac p0.Prio.length ad],.slice a1 p1.length u1] w (λv w'=>∃(κ':Col),v= .bool r/\Ent κ w κ' w'):=by
 unfold ja at h
 refine Ret.enter F173 R N173 R ?_
 dsimp only[envOf]
 have hE:=Ent.refl κ w
 refine Je [1,2] R (Jf1 (κ:=κ) 2 R R R R R R R λb2 w1 K2 S3 f4=>⟨tv,Jb 1 R (Je [1,2,1,2,2,2,1,1,2] R (Jl tv R R R R (Jd2 (cs:=[.slice af p0.Arena.Owner.length ab,.slice ae p0.Arena.Next.length aa,.slice ac p0.Prio.length ad]) I108 Z108 R R R (haE f4.cells)) (Jn 1 R (Ob h λx10 hx10 h=>?_))))⟩)
 have f5:=g0_0_0.stp S3 R R
 have f6:=g0_0_1.stp S3 R R
 have f7:=g0_1.stp S3 R R
 refine Jh R R R C211 (qK (κ:=Mk K2) (p0:=p0) (Ji3 f5) (Ji3 f6) (Ji3 f7) (Ji3 (g1.stp S3 R R)) hx10) ?_
 rintro _ w9 ⟨k10,aj,ah,ai,ak,al,am,rfl,e11,f12,f13,f14⟩
 obtain⟨K15,S16,m17⟩:=Ji e11 3 R
 refine⟨tv,Jn 3 R (Jg1 (κ:=K15) 8 R R R R R X108 R λb5 w22 K23 S24 f25=>⟨tv,Jj1 (κ:=K23) 8 (vc:=[.slice aj x10.1.Arena.Owner.length ah,.slice ai x10.1.Arena.Next.length ak,.slice al x10.1.Prio.length am]) R R R R R R R Z108 R R f25 R λw26 S27 f28=>⟨tv,Jb 1 R (Jq (Js1 (κ:=K23) [2,8] none [(0,2),(1,2),(2,0),(4,0),(3,1),(5,1),(6,1),(7,2),(8,2)] [] (by kernel_rfl) (by kernel_rfl) λw30 S29=>Jn 2 R (Ob h λp20 h hK31=>Ju1 [(2,0),(4,0),(3,1),(5,1),(6,1),(7,2)] [(8,2)] (λL w'=>L=[(4,.bool false),(20,.bool p20)]/\∃κ',Stp [] K23 w30 κ' w') (Cl.refl _ _ _) ?_ ?_)))⟩⟩)⟩
 revert h
 cases ht32:x10.2
 refine JF λh=>Je1 R R R R (Je1 R R R R (Jd1 R R R R (Jd1 R R R R (Jd1 R R R R (Jn 1 R ?_)))))
 cases h
 exact Jv1 _ (Cl.refl _ _ _) ⟨R,_,Jj3⟩ (KM R)
 have S001:=(S24.tr (S27.tr S29))
 refine JT λh=>Jg R (Jd2 (cs:=[.slice aj x10.1.Arena.Owner.length ah,.slice ai x10.1.Arena.Next.length ak,.slice al x10.1.Prio.length am]) I108 Z108 R R R (haC (f28.stp S29 R R).cells R)) (Jg R (Jd2 (cs:=[.slice af p0.Arena.Owner.length ab,.slice ae p0.Arena.Next.length aa,.slice ac p0.Prio.length ad]) I108 Z108 R R R (haC (f4.stp (S16.tr (S24.tr (S27.tr S29))) R R).cells R)) (Ob h λx16 hx16 h=>Jh R R R C174 (mo (κ:=Mk K23) (p0:=x10.1) (Ji3 ((f12.mx (bH _) m17 R (R:3+2=5)).stp S001 R R).rdc) (Ji3 ((f13.mx (co (bH _) _) m17 R (R:3+3=6)).stp S001 R R).rdc) (Ji3 ((f14.mx (bH _) m17 R (R:3+4=7)).stp S001 R R).rdc) hx16) ?_))
 rintro _ w38 ⟨k39,an,aq,rfl,e40,f41⟩
 obtain⟨K42,S43,m44⟩:=Ji e40 9 R
 have S002:=(S16.tr (S24.tr (S27.tr (S29.tr S43))))
 refine⟨(S43.cl R),Ob h λx18 hx18 h=>Jh R R R C174 (mo (κ:=Mk K42) (p0:=p0) (Ji3 (f5.stp S002 R R)) (Ji3 (f6.stp S002 R R)) (Ji3 (f7.stp S002 R R)) hx18) ?_⟩
 rintro _ w50 ⟨k51,ao,ap,rfl,e52,f53⟩
 obtain⟨K54,S55,m56⟩:=Ji e52 12 R
 refine⟨((S43.tr S55).cl R),Ob h λx19 hx19 h=>Jh R R R C212 (rH (κ:=Mk K54) (Ji3 ((f41.mx (bH _) m44 R (R:9+2=11)).stp S55 R R).rdc) (Ji3 (f53.mx (bH _) m56 R (R:12+2=14)).rdc) hx19) ?_⟩
 rintro _ w60 ⟨k61,rfl,e62⟩
 obtain⟨K63,S64,m65⟩:=Ji e62 15 R
 refine⟨((S43.tr (S55.tr S64)).cl R),Jn 1 R ?_⟩
 cases h
 exact Jv1 _ ((S43.tr (S55.tr S64)).cl R) ⟨R,_,(S43.tr (S55.tr S64)).wk R⟩ (KM R)
 rintro _ w67 _ ⟨rfl,K68,S69⟩
 have h:=hK31
 refine Jn 1 R (Jt1 (Jd (Ju (Ja2 (l:=[.tmp 4]) V173 (Jp2 R R) R ?_))))
 cases h
 exact⟨K68,R,(hE.stp (S3.tr (S16.tr (S24.tr (S27.tr (S29.tr S69))))) R R)⟩
theorem lb {w:World}{κ:Col}{p0:Sig}{a1 u1}{p1:(List Clause)}(g1:Rd Clause.rp κ w 0 a1 u1 p1){r:Det×Bool}(h:dh p0 p1=some r):Ret Tryz.prog 77 [.agg #[vi p0.In,vi p0.Out],.slice a1 p1.length u1] w (λv w'=>∃(κ':Col) (ra0:Option Addr) (ru0:Nat) (ra1:Option Addr) (ru1:Nat),v= .tuple #[.agg #[.slice ra0 r.1.Next.length ru0,.slice ra1 r.1.Pairs.length ru1],.bool r.2]/\Ent κ w κ' w'/\Oc (Ep.own E6 2) 29 κ' w' 2 ra0 ru0 r.1.Next/\Oc Pair.ep154 154 κ' w' 3 ra1 ru1 r.1.Pairs):=by
 unfold dh at h
 refine Ret.enter F77 R N77 R ?_
 dsimp only[envOf]
 have hE:=Ent.refl κ w
 refine Je [1,1,2] R (Jf1 (κ:=κ) 2 R R R R R R R λb2 w1 K2 S3 f4=>⟨tv,Jg1 (κ:=K2) 3 R R R R R X100 R λb4 w5 K6 S7 f8=>⟨tv,Jb 1 R (Jq (Je [1,1,2,2,1,2,1,2,2] R ?_))⟩⟩)
 have f9:=f4.stp S7 R R
 refine Jl tv R R R R (Jd2 (cs:=[vi p0.In,vi p0.Out]) I25 Z25 R R R (haE f9.cells)) (Ob h λx12 hx12 h=>Jh R R R C48 (oC (κ:=Mk K6) (p0:=p0) hx12) ?_)
 rintro _ w10 ⟨k11,rfl,e12⟩
 obtain⟨K13,S14,m15⟩:=Ji e12 4 R
 refine⟨tv,Jn 2 R (Ob h λp19 h hK17=>Ju1 [(4,1),(5,2),(6,1),(7,2),(8,2)] [] (λL w'=>L=[(1,.slice a1 p1.length u1),(2,.pointer (some ⟨b2,0,none⟩)),(4,.pointer (some ⟨b4,0,none⟩)),(19,.bool p19)]/\∃κ',Stp [] K13 w10 κ' w') tv ?_ ?_)⟩
 revert h
 cases ht18:(!x12)
 refine JF λh=>Jl tv R R R R (Jd2 (cs:=[vi p0.In,vi p0.Out]) I25 Z25 R R R (haE (f9.stp S14 R R).cells)) (Jn 1 R (Ob h λx17 hx17 h=>Jh R R R C129 (nO (κ:=Mk K13) (p0:=p0) (Ji3 (g1.stp (S3.tr (S7.tr S14)) R R)) hx17) ?_))
 rintro _ w21 ⟨k22,rfl,e23⟩
 obtain⟨K24,S25,m26⟩:=Ji e23 6 R
 refine⟨tv,Jn 2 R ?_⟩
 cases h
 exact Jv1 _ tv ⟨R,_,S25.wk R⟩ (KM R)
 refine JT λh=>Jd1 R R R R (Jn 1 R (Jd1 R R R R (Jn 2 R ?_)))
 cases h
 exact Jv1 _ tv ⟨R,_,Jj3⟩ (KM R)
 rintro _ w28 _ ⟨rfl,K29,S30⟩
 have h:=hK17
 refine Jd ?_
 revert h
 cases ht31:p19
 refine JF λh=>Jy R (Js (Jp (Je [1,1,1,1,2,1,1] R ?_)))
 have f37:=f9.stp (S14.tr S30) R R
 refine Jl tv R R R R (Jd2 (cs:=[vi p0.In,vi p0.Out]) I25 Z25 R R R (haE f37.cells)) (Ob h λx22 hx22 h=>Jh R R R C130 (eU (κ:=Mk K29) (p0:=p0) hx22) ?_)
 rintro _ w38 ⟨k39,rfl,e40⟩
 obtain⟨K41,S42,m43⟩:=Ji e40 6 R
 refine⟨tv,Ob h λx23 hx23 h=>Jl1 (κ:=K41) (E:=E6) (z:=(0:Int)) 8 R R R R R R R Y29 Tryzinfo2 R R R R R (λ_ _ _=>R) (Ju2 hx23) λav aw w45 K46 S47 f48=>⟨tv,Jn1 (κ:=K46) (E:=(Ep.own E6 2)) 9 [8] (parts:=[(0,.tmp 23)]) (cells:=[.slice av x23.length aw]) (xs:=([x23]:List (List Int))) R R R R R R Y26 Tryzinfo29 R R R R R R R R R R ⟨[.slice av x23.length aw],[],Zl K46 w45 [8],Zl K46 w45 [],R,Zl.sp (l1:=[8]) (l2:=[]) R,Zl.sr (l1:=[8]) (l2:=[]),⟨_,_,R,f48⟩,R⟩ λau ar w49 K50 S51 f52=>⟨tv,Jf R (bI (parts:=[(0,.tmp 24)]) (cells:=[.slice au ([x23]:List (List Int)).length ar,.slice none 0 0]) R R (by kernel_rfl)) (Jg1 (κ:=K50) 10 R R R R R X100 R λb6 w53 K54 S55 f56=>⟨tv,Jj1 (κ:=K54) 10 (vc:=[.slice au ([x23]:List (List Int)).length ar,.slice none 0 0]) R R R R R R R Z100 R R f56 R λw57 S58 f59=>⟨tv,Jd (Jq (Jg3 [2,2,2] 1 R (Jf R (Je2 U49 R R) (Jb 1 R ?_))))⟩⟩)⟩⟩⟩
 have hN60:(p1.length:Int)<=9223372036854775807:=g1.len_le
 refine Ob h λq2 hq62 hK61=>?_
 clear h
 refine Jx1 (λL w'=>∃κ',∃s3:(List (List Int))×(List Pair),∃am ai aj ae,L=[(4,.pointer (some ⟨b4,0,none⟩)),(6,.pointer (some ⟨b6,0,none⟩))]/\Stp [10,12,13,14,17,19,20,21] K54 w57 κ' w'/\Oc (Ep.own E6 2) 29 κ' w' 9 am ai s3.1/\Oc Pair.ep154 154 κ' w' 11 aj ae s3.2/\Bc κ' w' 10 b6 100 [.slice am s3.1.length ai,.slice aj s3.2.length ae]/\q2=Sum.inr s3) ?_ ?_
 refine Jv (Jy1 (λk L w'=>∃κ' v28,∃s1:(List (List Int))×(List Pair),∃ao an ap aq,L=[(2,.pointer (some ⟨b2,0,none⟩)),(4,.pointer (some ⟨b4,0,none⟩)),(6,.pointer (some ⟨b6,0,none⟩)),(26,.slice a1 p1.length u1),(27,vi (p1.length:Int)),(28,vi v28)]/\Stp [10,12,13,14,17,19,20,21] K54 w57 κ' w'/\Oc (Ep.own E6 2) 29 κ' w' 9 ao an s1.1/\Oc Pair.ep154 154 κ' w' 11 ap aq s1.2/\Bc κ' w' 10 b6 100 [.slice ao s1.1.length an,.slice ap s1.2.length aq]/\0<=v28/\vH ((p1.length:Int)-v28)=k/\cntM (dG p0 p1) k v28 s1=some q2) ⟨_,_,⟨K54,0,((([x23]:List (List Int)):(List (List Int))),(([]:List Pair):(List Pair))),au,ar,none,0,R,Jj3,(f52.stp (S55.tr S58) R R),Ow.nil,f59,(by decide),(by simp),hq62⟩,(KM R)⟩ ?_)
 rintro k _ w69 ⟨K70,v28,s1,ao,an,ap,aq,rfl,S71,f72,f73,f74,hj60,hJ60,h⟩
 rcases k with _ | k
 have hk76:=h;obtain⟨o60,h⟩:=bO (Sum.inr (Sum.inl s1):(Det×Bool)⊕(((List (List Int))×(List Pair))⊕((List (List Int))×(List Pair))))
 have hc60:decide (v28<(p1.length:Int))=false:=Jo2 (by omega)
 refine Je3 R (Jq (Jw2 R hc60 (Jc1 (Jt (Jt ?_)))))
 cases h
 have h:=hk76
 refine Jb1 ?_
 cases h
 exact Jw1 _ ⟨K70,((s1.1:(List (List Int))),(s1.2:(List Pair))),ao,an,ap,aq,R,S71.wk R,f72,f73,f74,R⟩ (KM R)
 obtain⟨o60,h,hk76⟩:=BI h;unfold dG at h
 have hc60:decide (v28<(p1.length:Int))=true:=Jn2 (by omega)
 refine Je3 R (Jq (Jv2 R hc60 (Js (Jp (Jq (Jv (Je [2,1,1,1] R (Ob h λx30 hx30 h=>Jc3 R g1 hx30 U49 Z119 ?_))))))))
 obtain⟨cse78,hre78,hle78⟩:=((g1.stp (S3.tr (S7.tr (S14.tr (S30.tr (S42.tr (S47.tr (S51.tr (S55.tr (S58.tr S71))))))))) R R)).gSt hx30
 obtain⟨ae78_0,ue78_0,ae78_1,ue78_1,rfl,fe78_0,fe78_1⟩:=Clause.un hre78
 refine Jl tv R R R R (Jd2 (cs:=[vi x30.Kind,.slice ae78_0 x30.A.length ue78_0,.slice ae78_1 x30.B.length ue78_1]) I119 Z119 R R R (haE hle78)) (Jg1 (κ:=K70) 12 R R R R R X119 R λb8 w79 K80 S81 f82=>⟨tv,Jj1 (κ:=K80) 12 (vc:=[vi x30.Kind,.slice ae78_0 x30.A.length ue78_0,.slice ae78_1 x30.B.length ue78_1]) R R R R R R R Z119 R R f82 R λw83 S84 f85=>⟨tv,Jd (Jq (Ob h λx36 hx36 h=>Ob h λx37 hx37 h=>Jx1 (λL w'=>∃κ' b9 ah al ak af,L=[(2,.pointer (some ⟨b2,0,none⟩)),(4,.pointer (some ⟨b4,0,none⟩)),(6,.pointer (some ⟨b6,0,none⟩)),(9,.pointer (some ⟨b9,0,none⟩)),(10,.bool x37.2),(26,.slice a1 p1.length u1),(27,vi (p1.length:Int)),(28,vi v28)]/\Stp [13,17,19,20,21] K80 w83 κ' w'/\Oc (Ep.own E6 2) 29 κ' w' 13 ah al x37.1.Next/\Oc Pair.ep154 154 κ' w' 14 ak af x37.1.Pairs/\Bc κ' w' 15 b9 100 [.slice ah x37.1.Next.length al,.slice ak x37.1.Pairs.length af]) ?_ ?_))⟩⟩)
 refine WC.rxt (κ:=K80) [2,10,12] none (by kernel_rfl) λw93 S94=>Jq1 (fuel:=8) [(0,0),(1,0),(2,0)] (by kernel_rfl) (by kernel_rfl) R (Jg R (Jd2 (cs:=[.slice ao s1.1.length an,.slice ap s1.2.length aq]) I100 Z100 R R R (haC (f74.stp (S81.tr (S84.tr S94)) R R).cells R)) (Jg R (Jd2 (cs:=[vi p0.In,vi p0.Out]) I25 Z25 R R R (haC (f37.stp (S42.tr (S47.tr (S51.tr (S55.tr (S58.tr (S71.tr (S81.tr (S84.tr S94)))))))) R R).cells R)) (Jg R (Jd2 (cs:=[vi x30.Kind,.slice ae78_0 x30.A.length ue78_0,.slice ae78_1 x30.B.length ue78_1]) I119 Z119 R R R (haC (f85.stp S94 R R).cells R)) (Jp1 (WA.fork2 (fuel:=7) 3 8 (by kernel_rfl) R ?_ ?_)))))
 refine Jh R R R C132 (kL (κ:=Mk K80) (p0:=p0) (p1:=x30) (Ji3 (fe78_0.stp (S81.tr (S84.tr S94)) R R)) (Ji3 (fe78_1.stp (S81.tr (S84.tr S94)) R R)) hx36) ?_
 rintro _ w100 ⟨k101,ay,aA,ax,az,rfl,e102,f103,f104⟩
 obtain⟨K105,S106,m107⟩:=Ji e102 13 R
 refine⟨(S106.cl R),?_⟩
 have f109:=f103.mx (co (bH _) _) m107 R (R:13+2=15)
 have f110:=f104.mx Pair.no154 m107 R (R:13+3=16)
 refine Jp1 (WA.fork2 (fuel:=6) 4 8 (by kernel_rfl) R ?_ ?_)
 have S001:=(S81.tr (S84.tr (S94.tr S106)))
 refine Jh R R R C131 (jy (κ:=Mk K105) (p0:=(⟨s1.1,s1.2⟩:Det)) (p1:=x36) (Ji3 (f72.stp S001 R R).rdc) (Ji3 (f73.stp S001 R R).rdc) (Ji3 f109.rdc) (Ji3 f110.rdc) hx37) ?_
 rintro _ w113 ⟨k114,ac,ad,ab,aa,rfl,e115,f116,f117⟩
 obtain⟨K118,S119,m120⟩:=Ji e115 17 R
 have S002:=(S106.tr S119)
 exact⟨(S002.cl R),Jp1 (Jq1 (fuel:=0) [(5,2),(6,2),(7,2),(8,1),(9,1),(10,2)] (by kernel_rfl) (by kernel_rfl) R (Jn 3 R (Jg1 (κ:=K118) 21 R R R R R X100 R λb9 w124 K125 S126 f127=>⟨((S002.tr S126).cl R),Jj1 (κ:=K125) 21 (vc:=[.slice ac x37.1.Next.length ad,.slice ab x37.1.Pairs.length aa]) R R R R R R R Z100 R R f127 R λw128 S129 f130=>⟨((S002.tr (S126.tr S129)).cl R),Jn 1 R (Jp1 (Jr1 [] (by kernel_rfl) (by kernel_rfl) R (Jo (Jw1 _ ⟨(λb=>ren [(19,13),(20,14),(21,15)] (K125 b)),b9,ac,ad,ab,aa,R,(Jy2 ((S94.tr (S106.tr (S119.tr (S126.tr S129)))).wk R) [(19,13),(20,14),(21,15)] R),(((f116.mx (co (bH _) _) m120 R (R:17+2=19)).stp (S126.tr S129) R R).map (ren [(19,13),(20,14),(21,15)]) R R),(((f117.mx Pair.no154 m120 R (R:17+3=20)).stp (S126.tr S129) R R).map (ren [(19,13),(20,14),(21,15)]) R R),(f130.map (ren [(19,13),(20,14),(21,15)]) R R)⟩ (KM R)))))⟩⟩)))⟩
 have S003:=(S81.tr (S84.tr (S94.tr S106)))
 refine Jg1 (κ:=K105) 17 R R R R R X100 R λb9 w133 K134 S135 f136=>⟨((S106.tr S135).cl R),Jp1 (Jq1 (fuel:=0) [(4,1),(5,2),(6,2),(7,2),(9,1),(10,2)] (by kernel_rfl) (by kernel_rfl) R (Jh R R R C131 (jy (κ:=Mk K134) (p0:=(⟨s1.1,s1.2⟩:Det)) (p1:=x36) (Ji3 (f72.stp (S003.tr S135) R R).rdc) (Ji3 (f73.stp (S003.tr S135) R R).rdc) (Ji3 (f109.stp S135 R R).rdc) (Ji3 (f110.stp S135 R R).rdc) hx37) ?_))⟩
 rintro _ w141 ⟨k142,ac,ad,ab,aa,rfl,e143,f144,f145⟩
 obtain⟨K146,S147,m148⟩:=Ji e143 18 R
 have S004:=(S106.tr (S135.tr S147))
 exact⟨(S004.cl R),Jn 3 R (Jj1 (κ:=K146) 17 (vc:=[.slice ac x37.1.Next.length ad,.slice ab x37.1.Pairs.length aa]) R R R R R R R Z100 R R (f136.stp S147 R R) R λw153 S154 f155=>⟨((S004.tr S154).cl R),Jn 1 R (Jp1 (Jr1 [] (by kernel_rfl) (by kernel_rfl) R (Jo (Jw1 _ ⟨(λb=>ren [(20,13),(21,14),(17,15)] (K146 b)),b9,ac,ad,ab,aa,R,(Jy2 ((S94.tr (S106.tr (S135.tr (S147.tr S154)))).wk R) [(20,13),(21,14),(17,15)] R),(((f144.mx (co (bH _) _) m148 R (R:18+2=20)).stp S154 R R).map (ren [(20,13),(21,14),(17,15)]) R R),(((f145.mx Pair.no154 m148 R (R:18+3=21)).stp S154 R R).map (ren [(20,13),(21,14),(17,15)]) R R),(f155.map (ren [(20,13),(21,14),(17,15)]) R R)⟩ (KM R)))))⟩)⟩
 refine Jg1 (κ:=K80) 13 R R R R R X100 R λb9 w158 K159 S160 f161=>⟨(S160.cl R),Jp1 (Jq1 (fuel:=0) [(3,1),(4,1),(5,2),(6,2),(7,2),(9,1),(10,2)] (by kernel_rfl) (by kernel_rfl) R (Jh R R R C132 (kL (κ:=Mk K159) (p0:=p0) (p1:=x30) (Ji3 (fe78_0.stp (S81.tr (S84.tr (S94.tr S160))) R R)) (Ji3 (fe78_1.stp (S81.tr (S84.tr (S94.tr S160))) R R)) hx36) ?_))⟩
 rintro _ w164 ⟨k165,ay,aA,ax,az,rfl,e166,f167,f168⟩
 obtain⟨K169,S170,m171⟩:=Ji e166 14 R
 have S005:=(S81.tr (S84.tr (S94.tr (S160.tr S170))))
 refine⟨((S160.tr S170).cl R),Jh R R R C131 (jy (κ:=Mk K169) (p0:=(⟨s1.1,s1.2⟩:Det)) (p1:=x36) (Ji3 (f72.stp S005 R R).rdc) (Ji3 (f73.stp S005 R R).rdc) (Ji3 (f167.mx (co (bH _) _) m171 R (R:14+2=16)).rdc) (Ji3 (f168.mx Pair.no154 m171 R (R:14+3=17)).rdc) hx37) ?_⟩
 rintro _ w177 ⟨k178,ac,ad,ab,aa,rfl,e179,f180,f181⟩
 obtain⟨K182,S183,m184⟩:=Ji e179 18 R
 have S006:=(S160.tr (S170.tr S183))
 exact⟨(S006.cl R),Jn 3 R (Jj1 (κ:=K182) 13 (vc:=[.slice ac x37.1.Next.length ad,.slice ab x37.1.Pairs.length aa]) R R R R R R R Z100 R R (f161.stp (S170.tr S183) R R) R λw189 S190 f191=>⟨((S006.tr S190).cl R),Jn 1 R (Jp1 (Jr1 [] (by kernel_rfl) (by kernel_rfl) R (Jo (Jw1 _ ⟨(λb=>ren [(20,13),(21,14),(13,15)] (K182 b)),b9,ac,ad,ab,aa,R,(Jy2 ((S94.tr (S160.tr (S170.tr (S183.tr S190)))).wk R) [(20,13),(21,14),(13,15)] R),(((f180.mx (co (bH _) _) m184 R (R:18+2=20)).stp S190 R R).map (ren [(20,13),(21,14),(13,15)]) R R),(((f181.mx Pair.no154 m184 R (R:18+3=21)).stp S190 R R).map (ren [(20,13),(21,14),(13,15)]) R R),(f191.map (ren [(20,13),(21,14),(13,15)]) R R)⟩ (KM R)))))⟩)⟩
 rintro _ w86 ⟨K87,b9,ah,al,ak,af,rfl,S88,f90,f91,f92⟩
 refine Jp (Jq (Je3 R ?_))
 revert h
 cases ht194:(!x37.2)
 refine JF λh=>Jy R (Js (Jp (Ja [1,1] R (Jl tv R R R R (Jd2 (cs:=[.slice ah x37.1.Next.length al,.slice ak x37.1.Pairs.length af]) I100 Z100 R R R (haE f92.cells)) (Jj1 (κ:=K87) 10 (vc:=[.slice ah x37.1.Next.length al,.slice ak x37.1.Pairs.length af]) R R R R R R R Z100 R R (f74.stp (S81.tr (S84.tr S88)) R R) R λw201 S202 f203=>⟨tv,Jo (Jz (Jp (Jf3 R ?_)))⟩)))))
 have hw60:IntKind.wrap .i64 (v28+1)=v28+1:=wr1 hj60 (Jm2 hc60) hN60
 rw[hw60]
 have hc60:=Jm2 hc60
 cases h
 exact Jz1 λa ha=>⟨k,_,Ja3 _,⟨(λb=>ren [(13,9),(14,11)] (K87 b)),v28+1,((x37.1.Next:(List (List Int))),(x37.1.Pairs:(List Pair))),ah,al,ak,af,R,(Jy2 ((S71.tr (S81.tr (S84.tr (S88.tr S202)))).wk R) [(13,9),(14,11)] R),((f90.stp S202 R R).map (ren [(13,9),(14,11)]) R R),((f91.stp S202 R R).map (ren [(13,9),(14,11)]) R R),(f203.map (ren [(13,9),(14,11)]) R R),by omega,by omega,hk76⟩,(ha.mm R)⟩
 refine JT λh=>Jx R (Je [2,1,2] R (Jf R (bI (parts:=[]) (cells:=[.slice none 0 0,.slice none 0 0]) R R (by kernel_rfl)) (Jj1 (κ:=K87) 3 (vc:=[.slice none 0 0,.slice none 0 0]) R R R R R R R Z100 R R (f8.stp (S14.tr (S30.tr (S42.tr (S47.tr (S51.tr (S55.tr (S58.tr (S71.tr (S81.tr (S84.tr S88)))))))))) R R) R λw196 S197 f198=>⟨tv,Jb 1 R (Ju (Jw (Ja1 (Jw (Jw ?_)))))⟩)))
 cases h
 obtain rfl:=Option.some.inj hk76
 have h:=hK61
 dsimp only[aft]at h
 refine Ja1 (Jq2 (Jw (Ja2 (l:=[.cell 4 100,.tmp 5]) V77 (bL R f198 I100 Z100 R (Jp2 R R)) R ?_)))
 cases h
 exact⟨K87,none,0,none,0,R,(hE.stp (S3.tr (S7.tr (S14.tr (S30.tr (S42.tr (S47.tr (S51.tr (S55.tr (S58.tr (S71.tr (S81.tr (S84.tr (S88.tr S197))))))))))))) R R),Ow.nil,Ow.nil⟩
 rintro _ w63 ⟨K64,s3,am,ai,aj,ae,rfl,S65,f66,f67,f68,rfl⟩
 have h:=hK61
 dsimp only[aft]at h
 refine Jp (Je [1,1,2] R (Jl tv R R R R (Jd2 (cs:=[.slice am s3.1.length ai,.slice aj s3.2.length ae]) I100 Z100 R R R (haE f68.cells)) (Jj1 (κ:=K64) 3 (vc:=[.slice am s3.1.length ai,.slice aj s3.2.length ae]) R R R R R R R Z100 R R (f8.stp (S14.tr (S30.tr (S42.tr (S47.tr (S51.tr (S55.tr (S58.tr S65))))))) R R) R λw207 S208 f209=>⟨tv,Jb 1 R (Ju (Ja2 (l:=[.cell 4 100,.tmp 5]) V77 (bL R f209 I100 Z100 R (Jp2 R R)) R ?_))⟩)))
 cases h
 exact⟨(λb=>ren [(9,2),(11,3)] (K64 b)),am,ai,aj,ae,R,((hE.stp (S3.tr (S7.tr (S14.tr (S30.tr (S42.tr (S47.tr (S51.tr (S55.tr (S58.tr (S65.tr S208)))))))))) R R).map (ren [(9,2),(11,3)]) R R),((f66.stp S208 R R).map (ren [(9,2),(11,3)]) R R),((f67.stp S208 R R).map (ren [(9,2),(11,3)]) R R)⟩
 refine JT λh=>Jx R (Je [2,1,2] R (Jf R (bI (parts:=[]) (cells:=[.slice none 0 0,.slice none 0 0]) R R (by kernel_rfl)) (Jj1 (κ:=K29) 3 (vc:=[.slice none 0 0,.slice none 0 0]) R R R R R R R Z100 R R (f8.stp (S14.tr S30) R R) R λw33 S34 f35=>⟨tv,Jb 1 R (Ju (Jw (Ja2 (l:=[.cell 4 100,.tmp 5]) V77 (bL R f35 I100 Z100 R (Jp2 R R)) R ?_)))⟩)))
 cases h
 exact⟨K29,none,0,none,0,R,(hE.stp (S3.tr (S7.tr (S14.tr (S30.tr S34)))) R R),Ow.nil,Ow.nil⟩
theorem oa {w:World}{κ:Col}{p0:Sig}{aJ aK aN aL}{p1:Det}{aF aG aE aI aD aB}{p2:Parity}{a3 u3}{p3:(List Place)}(g1_0:Rd (Rp.sl (Rp.int .i64)) κ w 0 aJ aK p1.Next) (g1_1:Rd Pair.rp κ w 0 aN aL p1.Pairs) (g2_0_0:Rd (Rp.int .i64) κ w 0 aF aG p2.Arena.Owner) (g2_0_1:Rd (Rp.sl (Rp.int .i64)) κ w 0 aE aI p2.Arena.Next) (g2_1:Rd (Rp.int .i64) κ w 0 aD aB p2.Prio) (g3:Rd Place.rp κ w 0 a3 u3 p3){r:Rival}(h:g7 p0 p1 p2 p3=some r):Ret Tryz.prog 81 [.agg #[vi p0.In,vi p0.Out],.agg #[.slice aJ p1.Next.length aK,.slice aN p1.Pairs.length aL],.agg #[.slice aF p2.Arena.Owner.length aG,.slice aE p2.Arena.Next.length aI,.slice aD p2.Prio.length aB],.slice a3 p3.length u3] w (λv w'=>∃(κ':Col) (ra0:Option Addr) (ru0:Nat) (ra1:Option Addr) (ru1:Nat),v= .agg #[.slice ra0 r.In.length ru0,.slice ra1 r.Next.length ru1]/\Ent κ w κ' w'/\Oc E6 2 κ' w' 2 ra0 ru0 r.In/\Oc (Ep.own E6 2) 29 κ' w' 3 ra1 ru1 r.Next):=by
 unfold g7 at h
 refine Ret.enter F81 R N81 R ?_
 dsimp only[envOf]
 have hE:=Ent.refl κ w
 refine Je [1,1,1,1,1] R (Jf1 (κ:=κ) 2 R R R R R R R λb4 w1 K2 S3 f4=>⟨tv,Jf1 (κ:=K2) 3 R R R R R R R λb5 w5 K6 S7 f8=>⟨tv,Jf1 (κ:=K6) 4 R R R R R R R λb6 w9 K10 S11 f12=>⟨tv,Jf1 (κ:=K10) 5 R R R R R R R λb7 w13 K14 S15 f16=>⟨tv,Jg1 (κ:=K14) 6 R R R R R X31 R λb8 w17 K18 S19 f20=>⟨tv,Jd (Je [1,1,2,2] R ?_)⟩⟩⟩⟩⟩)
 have f21:=f12.stp (S15.tr S19) R R
 refine Jl tv R R R R (Jd2 (cs:=[.slice aF p2.Arena.Owner.length aG,.slice aE p2.Arena.Next.length aI,.slice aD p2.Prio.length aB]) I108 Z108 R R R (haE f21.cells)) (Ob h λx24 hx24 h=>?_)
 have f23:=g2_0_1.stp (S3.tr (S7.tr (S11.tr (S15.tr S19)))) R R
 have S001:=(S3.tr (S7.tr (S11.tr (S15.tr S19))))
 refine Jh R R R C90 (qW (κ:=Mk K18) (p0:=p2) (Ji3 (g2_0_0.stp S001 R R)) (Ji3 f23) (Ji3 (g2_1.stp S001 R R)) hx24) ?_
 rintro _ w25 ⟨k26,aZ,ba,ap,al,rfl,e27,f28,f29⟩
 obtain⟨K30,S31,m32⟩:=Ji e27 7 R
 refine⟨tv,?_⟩
 have f35:=f29.mx (bH _) m32 R (R:7+3=10)
 refine Jf R (td U113 R I29 R R R) (Jb 1 R (Je [2,1,2,2] R (Jd3 R U100 R Z26 ?_)))
 have f36:=f8.stp (S11.tr (S15.tr (S19.tr S31))) R R
 refine Jb3 R I26 (f36.ld 0 R R) (Jf R (Je2 U26 R R) (Jb 1 R (Je [1,2] R (Jn1 (κ:=K30) (E:=E6) 11 [] (parts:=[(0,.const (vi 0))]) (cells:=[vi 0]) (xs:=([0]:List Int)) R R R R R R Y29 Tryzinfo2 R R R R R R R R R R ⟨[vi 0],[],Zl K30 w25 [],Zl K30 w25 [],R,Zl.sp (l1:=[]) (l2:=[]) R,Zl.sr (l1:=[]) (l2:=[]),R,R⟩ λaP aW w37 K38 S39 f40=>⟨tv,Jb 1 R (Je [2,1,1] R (Jf R (bI (parts:=[]) (cells:=[.slice none 0 0,.slice none 0 0]) R R (by kernel_rfl)) (Jg1 (κ:=K38) 12 R R R R R X31 R λb12 w41 K42 S43 f44=>⟨tv,Jj1 (κ:=K42) 12 (vc:=[.slice none 0 0,.slice none 0 0]) R R R R R R R Z31 R R f44 R λw45 S46 f47=>⟨tv,Jd (Jq (Je3 R (Ob h λq2 hq50 hK49=>?_)))⟩⟩)))⟩))))
 clear h
 refine Jx1 (λL w'=>∃κ',∃s3:(List Int)×Int×(List Int)×(List (List Int)),∃aO aM ae aa ah ai,L=[(8,.pointer (some ⟨b8,0,none⟩)),(12,.pointer (some ⟨b12,0,none⟩))]/\Stp [11,12,13,14,17,18,19,20] K42 w45 κ' w'/\Oc E6 2 κ' w' 11 aO aM s3.1/\Oc E6 2 κ' w' 13 ae aa s3.2.2.1/\Oc (Ep.own E6 2) 29 κ' w' 14 ah ai s3.2.2.2/\Bc κ' w' 12 b12 31 [.slice ae s3.2.2.1.length aa,.slice ah s3.2.2.2.length ai]/\q2=Sum.inr s3) ?_ ?_
 refine Jv (Jy1 (λk L w'=>∃κ',∃s1:(List Int)×Int×(List Int)×(List (List Int)),∃an ak ax ay aj ao,L=[(4,.pointer (some ⟨b4,0,none⟩)),(5,.pointer (some ⟨b5,0,none⟩)),(6,.pointer (some ⟨b6,0,none⟩)),(7,.pointer (some ⟨b7,0,none⟩)),(8,.pointer (some ⟨b8,0,none⟩)),(9,.slice ap x24.Plan.length al),(10,vi (p1.Next.length:Int)),(11,.slice an s1.1.length ak),(12,.pointer (some ⟨b12,0,none⟩)),(13,vi s1.2.1)]/\Stp [11,12,13,14,17,18,19,20] K42 w45 κ' w'/\Oc E6 2 κ' w' 11 an ak s1.1/\Oc E6 2 κ' w' 13 ax ay s1.2.2.1/\Oc (Ep.own E6 2) 29 κ' w' 14 aj ao s1.2.2.2/\Bc κ' w' 12 b12 31 [.slice ax s1.2.2.1.length ay,.slice aj s1.2.2.2.length ao]/\whileM (dy p0 p1 p2 p3 x24) k s1=some q2) ⟨_,_,⟨K42,((([0]:List Int):(List Int)),(0:Int),(([]:List Int):(List Int)),(([]:List (List Int)):(List (List Int)))),aP,aW,none,0,none,0,R,Jj3,(f40.stp (S43.tr S46) R R),Ow.nil,Ow.nil,f47,hq50⟩,(KM R)⟩ ?_)
 rintro k _ w58 ⟨K59,s1,an,ak,ax,ay,aj,ao,rfl,S60,f61,f62,f63,f64,h⟩
 rcases k with _ | k
 cases h
 obtain⟨o48,h,hk66⟩:=BI h;unfold dy at h
 refine Jq (Jg3 [2,2,2,2] 2 R (Jf R (Je2 U29 R R) (Jb 1 R ?_)))
 revert h
 cases ht67:decide (s1.2.1<(s1.1.length:Int))
 refine JF λh=>Jy R (Jc1 (Jt (Jt ?_)))
 cases h
 have h:=hk66
 refine Jb1 ?_
 cases h
 exact Jw1 _ ⟨K59,((s1.1:(List Int)),(s1.2.1:Int),(s1.2.2.1:(List Int)),(s1.2.2.2:(List (List Int)))),an,ak,ax,ay,aj,ao,R,S60.wk R,f61,f62,f63,f64,R⟩ (KM R)
 refine JT λh=>Jx R (Js (Jp (Jq (Jv (Jq (Js1 (κ:=K59) [0,5,11] none [(1,2),(2,2),(3,2),(0,0),(4,0),(5,2),(6,2),(7,0),(8,2)] [] (by kernel_rfl) (by kernel_rfl) λw69 S68=>Jn 2 R (Ob h λx40 hx40 h=>Jc3 R f61.rdc hx40 U29 Z2 ?_)))))))
 have f70:=f16.stp (S19.tr (S31.tr (S39.tr (S43.tr (S46.tr (S60.tr S68)))))) R R
 refine Jg R (Jc2 I109 R R (hvC (f70.ld 0 R R) R)) ?_
 have f71:=f61.stp S68 R R
 refine Jg R (Jc2 I2 R R (hvC (f71.rdc.gInt hx40) R)) (Ob h λx42 hx42 h=>Jc3 R g3 hx42 U109 Z116 (Jd3 R U116 R Z2 ?_))
 have f72:=g3.stp (S3.tr (S7.tr (S11.tr (S15.tr (S19.tr (S31.tr (S39.tr (S43.tr (S46.tr (S60.tr S68)))))))))) R R
 obtain⟨cse73,hre73,hle73⟩:=(f72).gSt hx42
 obtain⟨ae73_0,ue73_0,rfl,fe73_0⟩:=Place.un hre73
 refine Jg R (Jc2 I2 R R (hvC (λw' hw'=>hle73 w' hw' 0 _ R) R)) (Jn 1 R (Jt1 (Jd (Jg3 [2,2,2,2,1,2,1,2] 3 R (Ob h λx48 hx48 h=>Jc3 R f71.rdc hx48 U29 Z2 (Jb3 R I2 (f71.rdc.gInt hx48) (Ob h λx50 hx50 h=>Jc3 R f35.rdc hx50 U29 Z2 (Jb3 R I2 ((f35.stp (S39.tr (S43.tr (S46.tr (S60.tr S68)))) R R).rdc.gInt hx50) (Jb 1 R (Jq (Js1 (κ:=K59) [0,2,5] none [(1,2),(5,2),(0,0),(2,2),(3,2),(4,0),(6,2),(7,0),(8,1),(9,2),(10,2)] [] (by kernel_rfl) (by kernel_rfl) λw76 S75=>Jn 2 R ?_)))))))))))
 have f77:=f70.stp S75 R R
 refine Jg R (Jc2 I109 R R (hvC (f77.ld 0 R R) R)) (Ob h λx54 hx54 h=>Jc3 R f72 hx54 U109 Z116 (Jd3 R U116 R Z2 ?_))
 have f78:=f72.stp S75 R R
 obtain⟨cse79,hre79,hle79⟩:=(f78).gSt hx54
 obtain⟨ae79_0,ue79_0,rfl,fe79_0⟩:=Place.un hre79
 refine Jg R (Jc2 I2 R R (hvC (λw' hw'=>hle79 w' hw' 0 _ R) R)) (Jn 1 R ?_)
 have f80:=f4.stp (S7.tr (S11.tr (S15.tr (S19.tr (S31.tr (S39.tr (S43.tr (S46.tr (S60.tr (S68.tr S75)))))))))) R R
 refine Jg R (Jd2 (cs:=[vi p0.In,vi p0.Out]) I25 Z25 R R R (haC f80.cells R)) (Ob h λx60 hx60 h=>Jh R R R C52 (gX (κ:=Mk K59) (p0:=p0) hx60) ?_)
 rintro _ w81 ⟨k82,rfl,e83⟩
 obtain⟨K84,S85,m86⟩:=Ji e83 15 R
 refine⟨(S85.cl R),Ob h λ_z61 hz61 h=>Jf R (qc R R R (uM hz61)) (Jn 1 R (Jt1 (Jd (Je [1,2] R (Jo1 (κ:=K84) (E:=E6) 17 R R R R R Y29 Tryzinfo2 R λaU aR w88 K89 S90 f91=>⟨tv,Jb 1 R (Jq (Je [2,1,2,2] R (Jd3 R U25 R Z2 ?_)))⟩)))))⟩
 have f92:=f80.stp (S85.tr S90) R R
 refine Jb3 R I2 (f92.ld 1 R R) (Ob h λ_z65 hz65 h=>Jf R (qp R R R (sO hz65)) (Jb 1 R (Ob h λ_ hr93 h=>?_)))
 have hN93:=iF hr93
 refine Ob h λq5 hq95 hK94=>?_
 clear h
 refine Jx1 (λL w'=>∃κ',∃s6:(List Int)×(List Int),∃aA aw am aq,L=[(4,.pointer (some ⟨b4,0,none⟩)),(5,.pointer (some ⟨b5,0,none⟩)),(6,.pointer (some ⟨b6,0,none⟩)),(7,.pointer (some ⟨b7,0,none⟩)),(8,.pointer (some ⟨b8,0,none⟩)),(9,.slice ap x24.Plan.length al),(10,vi (p1.Next.length:Int)),(11,.slice aA s6.1.length aw),(12,.pointer (some ⟨b12,0,none⟩)),(13,vi s1.2.1),(16,vi (Int.tmod (IntKind.i64.wrap (x54.At-(p1.Next.length:Int))) x60)),(17,.slice am s6.2.length aq)]/\Stp [11,17,18,20] K89 w88 κ' w'/\Oc E6 2 κ' w' 11 aA aw s6.1/\Oc E6 2 κ' w' 17 am aq s6.2/\q5=Sum.inr s6) ?_ ?_
 refine Jv (Jy1 (λk L w'=>∃κ' v66,∃s4:(List Int)×(List Int),∃af ad ab ac,L=[(4,.pointer (some ⟨b4,0,none⟩)),(5,.pointer (some ⟨b5,0,none⟩)),(6,.pointer (some ⟨b6,0,none⟩)),(7,.pointer (some ⟨b7,0,none⟩)),(8,.pointer (some ⟨b8,0,none⟩)),(9,.slice ap x24.Plan.length al),(10,vi (p1.Next.length:Int)),(11,.slice af s4.1.length ad),(12,.pointer (some ⟨b12,0,none⟩)),(13,vi s1.2.1),(14,vi x42.At),(15,vi x50),(16,vi (Int.tmod (IntKind.i64.wrap (x54.At-(p1.Next.length:Int))) x60)),(17,.slice ab s4.2.length ac),(65,vi (IntKind.i64.wrap (1 * 2 ^ (min (vH p0.Out) (IntKind.bits IntKind.i64))))),(66,vi v66)]/\Stp [11,17,18,20] K89 w88 κ' w'/\Oc E6 2 κ' w' 11 af ad s4.1/\Oc E6 2 κ' w' 17 ab ac s4.2/\0<=v66/\vH ((IntKind.i64.wrap (1 * 2 ^ (min (vH p0.Out) (IntKind.bits IntKind.i64))))-v66)=k/\cntM (dR p0 p1 p2 p3 x42 x50 x54 x60) k v66 s4=some q5) ⟨_,_,⟨K89,0,((s1.1:(List Int)),(([]:List Int):(List Int))),an,ak,aU,aR,R,Jj3,(f71.stp (S75.tr (S85.tr S90)) R R),f91,(by decide),(by simp),hq95⟩,(KM R)⟩ ?_)
 rintro k _ w101 ⟨K102,v66,s4,af,ad,ab,ac,rfl,S103,f104,f105,hj93,hJ93,h⟩
 rcases k with _ | k
 have hk107:=h;obtain⟨o93,h⟩:=bO (Sum.inr (Sum.inl s4):Rival⊕(((List Int)×(List Int))⊕((List Int)×(List Int))))
 have hc93:decide (v66<(IntKind.i64.wrap (1 * 2 ^ (min (vH p0.Out) (IntKind.bits IntKind.i64)))))=false:=Jo2 (by omega)
 refine Je3 R (Jq (Jw2 R hc93 (Jc1 (Jt (Jt ?_)))))
 cases h
 have h:=hk107
 refine Jb1 ?_
 cases h
 exact Jw1 _ ⟨K102,((s4.1:(List Int)),(s4.2:(List Int))),af,ad,ab,ac,R,S103.wk R,f104,f105,R⟩ (KM R)
 obtain⟨o93,h,hk107⟩:=BI h;unfold dR at h
 have hc93:decide (v66<(IntKind.i64.wrap (1 * 2 ^ (min (vH p0.Out) (IntKind.bits IntKind.i64)))))=true:=Jn2 (by omega)
 refine Je3 R (Jq (Jv2 R hc93 (Js (Jp (Jq (Jv (Je3 R (Jq (Ob h λx72 hx72 h=>Ob h λx76 hx76 h=>Ob h λx80 hx80 h=>Jx1 (λL w'=>∃κ' b19,L=[(4,.pointer (some ⟨b4,0,none⟩)),(5,.pointer (some ⟨b5,0,none⟩)),(6,.pointer (some ⟨b6,0,none⟩)),(7,.pointer (some ⟨b7,0,none⟩)),(8,.pointer (some ⟨b8,0,none⟩)),(9,.slice ap x24.Plan.length al),(10,vi (p1.Next.length:Int)),(11,.slice af s4.1.length ad),(12,.pointer (some ⟨b12,0,none⟩)),(13,vi s1.2.1),(14,vi x42.At),(15,vi x50),(16,vi (Int.tmod (IntKind.i64.wrap (x54.At-(p1.Next.length:Int))) x60)),(17,.slice ab s4.2.length ac),(19,.pointer (some ⟨b19,0,none⟩)),(65,vi (IntKind.i64.wrap (1 * 2 ^ (min (vH p0.Out) (IntKind.bits IntKind.i64))))),(66,vi v66)]/\Stp [18,20] K102 w101 κ' w'/\Bc κ' w' 18 b19 2 [vi x80]) ?_ ?_)))))))))
 refine WC.rxt (κ:=K102) [0,2,3] none (by kernel_rfl) λw113 S114=>Jq1 (fuel:=7) [(0,2),(2,2),(5,2),(9,2),(1,0),(3,2),(4,0),(6,0)] (by kernel_rfl) (by kernel_rfl) R (Jd3 R U100 R Z26 (Jn 3 R (Jg R (Jc2 I26 R R (hvC ((f36.stp (S39.tr (S43.tr (S46.tr (S60.tr (S68.tr (S75.tr (S85.tr (S90.tr (S103.tr S114))))))))) R R).ld 0 R R) R)) (Jc3 R g1_0 hx72 U26 Z29 ?_))))
 obtain⟨ax72,ux72,f117,hl118⟩:=(g1_0.stp (S3.tr (S7.tr (S11.tr (S15.tr (S19.tr (S31.tr (S39.tr (S43.tr (S46.tr (S60.tr (S68.tr (S75.tr (S85.tr (S90.tr (S103.tr S114))))))))))))))) R R).gSl hx72
 refine Jg R (Jc2 I29 R R (hvC hl118 R)) (Jg R (Jd2 (cs:=[vi p0.In,vi p0.Out]) I25 Z25 R R R (haC (f92.stp (S103.tr S114) R R).cells R)) (Jp1 (WA.fork2 (fuel:=6) 7 13 (by kernel_rfl) R ?_ ?_)))
 refine Jh R R R C52 (gX (κ:=Mk K102) (p0:=p0) hx76) ?_
 rintro _ w120 ⟨k121,rfl,e122⟩
 obtain⟨K123,S124,m125⟩:=Ji e122 18 R
 exact⟨(S124.cl R),Jp1 (Jq1 (fuel:=0) [(8,2),(10,2),(11,2),(12,0),(13,1),(14,1)] (by kernel_rfl) (by kernel_rfl) R (Jn 2 R (Jc3 R f117 hx80 U29 Z2 (Jg R (Jc2 I2 R R (hvC (f117.gInt hx80) R)) (Jg1 (κ:=K123) 20 R R R R R X2 R λb19 w127 K128 S129 f130=>⟨((S124.tr S129).cl R),Jj1 (κ:=K128) 20 (vc:=[vi x80]) R R R R R R R Z2 R R f130 R λw131 S132 f133=>⟨((S124.tr (S129.tr S132)).cl R),Jp1 (Jr1 [] (by kernel_rfl) (by kernel_rfl) R (Jo (Jw1 _ ⟨(λb=>ren [(20,18)] (K128 b)),b19,R,(Jy2 ((S114.tr (S124.tr (S129.tr S132))).wk R) [(20,18)] R),(f133.map (ren [(20,18)]) R R)⟩ (KM R))))⟩⟩)))))⟩
 refine Jg1 (κ:=K102) 18 R R R R R X2 R λb19 w134 K135 S136 f137=>⟨(S136.cl R),Jp1 (Jq1 (fuel:=0) [(7,1),(8,2),(10,2),(11,2),(12,0),(14,1)] (by kernel_rfl) (by kernel_rfl) R (Jh R R R C52 (gX (κ:=Mk K135) (p0:=p0) hx76) ?_))⟩
 rintro _ w138 ⟨k139,rfl,e140⟩
 obtain⟨K141,S142,m143⟩:=Ji e140 19 R
 exact⟨((S136.tr S142).cl R),Jn 2 R (Jc3 R f117 hx80 U29 Z2 (Jg R (Jc2 I2 R R (hvC (f117.gInt hx80) R)) (Jj1 (κ:=K141) 18 (vc:=[vi x80]) R R R R R R R Z2 R R (f137.stp S142 R R) R λw146 S147 f148=>⟨((S136.tr (S142.tr S147)).cl R),Jp1 (Jr1 [] (by kernel_rfl) (by kernel_rfl) R (Jo (Jw1 _ ⟨K141,b19,R,(S114.tr (S136.tr (S142.tr S147))).wk R,f148⟩ (KM R))))⟩)))⟩
 rintro _ w108 ⟨K109,b19,rfl,S110,f112⟩
 refine Jp (Je [2,2,1,2,2,1,2,1,2] R (Jd3 R U108 R Z104 (Jd3 R U104 R Z26 ?_)))
 have f149:=f21.stp (S31.tr (S39.tr (S43.tr (S46.tr (S60.tr (S68.tr (S75.tr (S85.tr (S90.tr (S103.tr S110)))))))))) R R
 refine Jb3 R I26 (f149.ld 1 R R) (Jn 1 R (Ob h λx86 hx86 h=>Jc3 R f23 hx86 U26 Z29 ?_))
 have f150:=f23.stp (S31.tr (S39.tr (S43.tr (S46.tr (S60.tr (S68.tr (S75.tr (S85.tr (S90.tr (S103.tr S110)))))))))) R R
 obtain⟨ax86,ux86,f151,hl152⟩:=f150.gSl hx86
 have S002:=(S85.tr (S90.tr (S103.tr S110)))
 refine Jb3 R I29 hl152 (Jf R (fR (first:=[]) (captured:=[.tmp 7,.tmp 19]) R R R ⟨_,R⟩) (Ob h λx89 hx89 h=>Jh R R R C91 (d6 (κ:=Mk K109) (Ji3 f151) (Ji3 (f78.stp S002 R R)) ((f77.stp S002 R R).map (mp [] 0) R R) (f112.map (mp [] 0) R R) hx89) ?_))
 rintro _ w155 ⟨k156,rfl,e157⟩
 obtain⟨K158,S159,m160⟩:=Ji e157 19 R
 refine⟨tv,Jb 1 R (Je [2,2,1,2,2,1,2,2,1,2] R (Jd3 R U108 R Z104 (Jd3 R U104 R Z26 (Jb3 R I26 ((f149.stp S159 R R).ld 1 R R) (Jn 1 R (Ob h λx94 hx94 h=>Jc3 R f150 hx94 U26 Z29 ?_))))))⟩
 obtain⟨ax94,ux94,f164,hl165⟩:=(f150.stp S159 R R).gSl hx94
 refine Jb3 R I29 hl165 (Jn 1 R (Ob h λx97 hx97 h=>Jc3 R f164 hx97 U29 Z2 (Jb3 R I2 (f164.gInt hx97) (Jb 1 R (Jg3 [2,2,1,2] 2 R (Ob h λx101 hx101 h=>?_))))))
 have f166:=f104.stp (S110.tr S159) R R
 refine Jh R R R C63 (fN (κ:=Mk K158) (Ji3 f166.rdc) hx101) ?_
 rintro _ w167 ⟨k168,rfl,e169⟩
 obtain⟨K170,S171,m172⟩:=Ji e169 21 R
 refine⟨tv,Jb 1 R (Jq (Je3 R (Ob h λq7 h hK174=>Jx1 (λL w'=>∃κ' av ar,L=[(4,.pointer (some ⟨b4,0,none⟩)),(5,.pointer (some ⟨b5,0,none⟩)),(6,.pointer (some ⟨b6,0,none⟩)),(7,.pointer (some ⟨b7,0,none⟩)),(8,.pointer (some ⟨b8,0,none⟩)),(9,.slice ap x24.Plan.length al),(10,vi (p1.Next.length:Int)),(11,.slice av q7.1.length ar),(12,.pointer (some ⟨b12,0,none⟩)),(13,vi s1.2.1),(14,vi x42.At),(15,vi x50),(16,vi (Int.tmod (IntKind.i64.wrap (x54.At-(p1.Next.length:Int))) x60)),(17,.slice ab s4.2.length ac),(22,vi q7.2),(65,vi (IntKind.i64.wrap (1 * 2 ^ (min (vH p0.Out) (IntKind.bits IntKind.i64))))),(66,vi v66)]/\Stp [11] K170 w167 κ' w'/\Oc E6 2 κ' w' 11 av ar q7.1) ?_ ?_)))⟩
 revert h
 cases ht179:decide (x101<0)
 refine JF λh=>Jy R (Js ?_)
 cases h
 exact Jw1 _ ⟨K170,af,ad,R,Jj3,(f166.stp S171 R R)⟩ (KM R)
 refine JT λh=>Jx R (Jg3 [2,2,2] 1 R (Jf R (Je2 U29 R R) (Jb 1 R (Jh3 [2,2,1,1,2] 2 R (Jn1 (κ:=K170) (E:=E6) 23 [] (parts:=[(0,.tmp 107)]) (cells:=[vi x97]) (xs:=([x97]:List Int)) R R R R R R Y29 Tryzinfo2 R R R R R R R R R R ⟨[vi x97],[],Zl K170 w167 [],Zl K170 w167 [],R,Zl.sp (l1:=[]) (l2:=[]) R,Zl.sr (l1:=[]) (l2:=[]),R,R⟩ λbg aX w180 K181 S182 f183=>⟨tv,Ob h λx109 hx109 h=>Jm1 (κ:=K181) (E:=E6) 11 [] R R R R R R R R R Y29 Tryzinfo2 R R R R (f166.stp (S171.tr S182) R R) (Sl.srcP (bR _) f183.rdc) bJ hx109 R λaS aT w185 K186 S187 f188=>⟨tv,Jc 1 R ?_⟩⟩)))))
 cases h
 exact Jw1 _ ⟨K186,aS,aT,R,(S182.tr S187).wk R,f188⟩ (KM R)
 rintro _ w175 ⟨K176,av,ar,rfl,S177,f178⟩
 have h:=hK174
 refine Jp (Jh3 [2,2,1,1,2] 2 R (Jn1 (κ:=K176) (E:=E6) 23 [] (parts:=[(0,.tmp 111)]) (cells:=[vi q7.2]) (xs:=([q7.2]:List Int)) R R R R R R Y29 Tryzinfo2 R R R R R R R R R R ⟨[vi q7.2],[],Zl K176 w175 [],Zl K176 w175 [],R,Zl.sp (l1:=[]) (l2:=[]) R,Zl.sr (l1:=[]) (l2:=[]),R,R⟩ λbb bc w190 K191 S192 f193=>⟨tv,Ob h λx113 hx113 h=>Jm1 (κ:=K191) (E:=E6) 17 [] R R R R R R R R R Y29 Tryzinfo2 R R R R (f105.stp (S110.tr (S159.tr (S171.tr (S177.tr S192)))) R R) (Sl.srcP (bR _) f193.rdc) bJ hx113 R λaV aQ w195 K196 S197 f198=>⟨tv,Jc 1 R (Jz (Jp (Jf3 R ?_)))⟩⟩))
 have hw93:IntKind.wrap .i64 (v66+1)=v66+1:=wr1 hj93 (Jm2 hc93) hN93
 rw[hw93]
 have hc93:=Jm2 hc93
 cases h
 exact Jz1 λa ha=>⟨k,_,Ja3 _,⟨K196,v66+1,((q7.1:(List Int)),(x113:(List Int))),av,ar,aV,aQ,R,(S103.tr (S110.tr (S159.tr (S171.tr (S177.tr (S192.tr S197)))))).wk R,(f178.stp (S192.tr S197) R R),f198,by omega,by omega,hk107⟩,(ha.mm R)⟩
 rintro _ w96 ⟨K97,s6,aA,aw,am,aq,rfl,S98,f99,f100,rfl⟩
 have h:=hK94
 dsimp only[aft]at h
 refine Jp (Je [2,1,2,1,1,2,1] R (Jd3 R U31 R Z29 ?_))
 have f200:=f64.stp (S68.tr (S75.tr (S85.tr (S90.tr S98)))) R R
 have S003:=(S68.tr (S75.tr (S85.tr (S90.tr S98))))
 refine Jb3 R I29 (f200.ld 0 R R) (Jn 1 R (Jn1 (κ:=K97) (E:=E6) 18 [] (parts:=[(0,.tmp 117)]) (cells:=[vi (Int.tmod (IntKind.i64.wrap (x54.At-(p1.Next.length:Int))) x60)]) (xs:=([(Int.tmod (IntKind.i64.wrap (x54.At-(p1.Next.length:Int))) x60)]:List Int)) R R R R R R Y29 Tryzinfo2 R R R R R R R R R R ⟨[vi (Int.tmod (IntKind.i64.wrap (x54.At-(p1.Next.length:Int))) x60)],[],Zl K97 w96 [],Zl K97 w96 [],R,Zl.sp (l1:=[]) (l2:=[]) R,Zl.sr (l1:=[]) (l2:=[]),R,R⟩ λbe aY w201 K202 S203 f204=>⟨tv,Ob h λx119 hx119 h=>Jm1 (κ:=K202) (E:=E6) 13 [] R R R R R R R R R Y29 Tryzinfo2 R R R R (f62.stp (S003.tr S203) R R) (Sl.srcP (bR _) f204.rdc) bJ hx119 R λau az w206 K207 S208 f209=>⟨tv,Jd3 R U31 R Z29 (Ji1 (κ:=K207) 12 (off:=0) (vc:=[.slice au x119.length az]) (cs':=[.slice au x119.length az,.slice aj s1.2.2.2.length ao]) R R R R R R R Z29 R R (f200.stp (S203.tr S208) R R) R R λw211 S212 f213=>⟨tv,Jd (Ja [2,1,2,1,1,2,1] R (Jd3 R U31 R Z26 (Jb3 R I26 (f213.ld 1 R R) (Jn 1 R (Jn1 (κ:=K207) (E:=(Ep.own E6 2)) 19 [17] (parts:=[(0,.tmp 123)]) (cells:=[.slice am s6.2.length aq]) (xs:=([s6.2]:List (List Int))) R R R R R R Y26 Tryzinfo29 R R R R R R R R R R ⟨[.slice am s6.2.length aq],[],Zl K207 w211 [17],Zl K207 w211 [],R,Zl.sp (l1:=[17]) (l2:=[]) R,Zl.sr (l1:=[17]) (l2:=[]),⟨_,_,R,(f100.stp (S203.tr (S208.tr S212)) R R)⟩,R⟩ λbd bf w215 K216 S217 f218=>⟨tv,Ob h λx125 hx125 h=>Jm1 (κ:=K216) (E:=(Ep.own E6 2)) 14 [19] R R R R R R R R R Y26 Tryzinfo29 R R R R (f63.stp (S003.tr (S203.tr (S208.tr (S212.tr S217)))) R R) f218.src (dc R) hx125 R λaC aH w220 K221 S222 f223=>⟨tv,Jd3 R U31 R Z26 (Ji1 (κ:=K221) 12 (off:=1) (vc:=[.slice aC x125.length aH]) (cs':=[.slice au x119.length az,.slice aC x125.length aH]) R R R R R R R Z26 R R (f213.stp (S217.tr S222) R R) R R λw225 S226 f227=>⟨tv,Jo (Jz (Jp (Jf3 R ?_)))⟩)⟩⟩)))))⟩)⟩⟩))
 cases h
 exact Jz1 λa ha=>⟨k,_,Ja3 _,⟨K221,((s6.1:(List Int)),((IntKind.i64.wrap (s1.2.1+1)):Int),(x119:(List Int)),(x125:(List (List Int)))),aA,aw,au,az,aC,aH,R,(S60.tr (S68.tr (S75.tr (S85.tr (S90.tr (S98.tr (S203.tr (S208.tr (S212.tr (S217.tr (S222.tr S226))))))))))).wk R,(f99.stp (S203.tr (S208.tr (S212.tr (S217.tr (S222.tr S226))))) R R),(f209.stp (S212.tr (S217.tr (S222.tr S226))) R R),(f223.stp S226 R R),f227,hk66⟩,(ha.mm R)⟩
 rintro _ w51 ⟨K52,s3,aO,aM,ae,aa,ah,ai,rfl,S53,f54,f55,f56,f57,rfl⟩
 have h:=hK49
 dsimp only[aft]at h
 refine Jp (Je [1,1] R (Jl tv R R R R (Jd2 (cs:=[.slice ae s3.2.2.1.length aa,.slice ah s3.2.2.2.length ai]) I31 Z31 R R R (haE f57.cells)) (Jj1 (κ:=K52) 6 (vc:=[.slice ae s3.2.2.1.length aa,.slice ah s3.2.2.2.length ai]) R R R R R R R Z31 R R (f20.stp (S31.tr (S39.tr (S43.tr (S46.tr S53)))) R R) R λw232 S233 f234=>⟨tv,Jd (Ju (Ja2 (l:=[.cell 8 31]) V81 (bL R f234 I31 Z31 R R) R ?_))⟩)))
 cases h
 exact⟨(λb=>ren [(13,2),(14,3)] (K52 b)),ae,aa,ah,ai,R,((hE.stp (S3.tr (S7.tr (S11.tr (S15.tr (S19.tr (S31.tr (S39.tr (S43.tr (S46.tr (S53.tr S233)))))))))) R R).map (ren [(13,2),(14,3)]) R R),((f55.stp S233 R R).map (ren [(13,2),(14,3)]) R R),((f56.stp S233 R R).map (ren [(13,2),(14,3)]) R R)⟩
end Go.Proofs.YtpcjbkgbnoocaaaGreat
