/- The walks, part 10. By program. -/
import Derived.Test.YtleekpaohfpooaaGreatFns9KE
set_option linter.unusedVariables false
set_option linter.unusedSimpArgs false
open Go.IntKind renaming wrap → yC
open Sum renaming inr → yD, inl → yE
open Int renaming toNat → yG
namespace Go.Proofs.YtleekpaohfpooaaGreat
open Go Go.Wk Go.Proofs
set_option maxRecDepth 100000
set_option maxHeartbeats 1000000
variable {w:World}{κ:Col}
theorem me {p0:Sig}{a1 u1}{p1:(List Clause)}(g1:Rd Clause.rp κ w 0 a1 u1 p1){r:Det×Bool}(h:cV p0 p1=some r):Ret Tryz.prog 41 [.agg #[vi p0.In,vi p0.Out],.slice a1 p1.length u1] w (λv w'=>∃(κ':Col) (ra0:Option Addr) (ru0:Nat) (ra1:Option Addr) (ru1:Nat),v= .tuple #[.agg #[.slice ra0 r.1.Next.length ru0,.slice ra1 r.1.Pairs.length ru1],.bool r.2]/\Ent κ w κ' w'/\Oc (Ep.own E6 2) 37 κ' w' 2 ra0 ru0 r.1.Next/\Oc Pair.ep127 127 κ' w' 3 ra1 ru1 r.1.Pairs):=by
 unfold cV at h
 refine Jk3 κ F41 R N41 R λhE=>Je [1,1,2] R<|Js3 (κ:=κ) 2 R λb2 w1 K2 S3 f4=>Tv<|Jt3 (κ:=K2) 3 R X71 R λb4 w5 K6 S7 f8=>Tv<|Jb 1 R<|Jq<|Je [1,1,2,2,1,2,1,2,2] R ?_
 have f9:=f4.stp S7
 refine Jb4 tv R (Jc4 (haE f9.cells) I28 Z28 R)<|Ob h λx12 hx12 h=>Jr3 R C82 (nh (κ:=Mk K6) (p0:=p0) hx12) ?_
 rintro _ w10 ⟨k11,rfl,e12⟩
 obtain⟨K13,S14,m15⟩:=Ji e12 4 R
 refine Tv<|Jn 2 R<|Ob h λp19 h hK17=>Jq3 [1,2,4] (λE L w'=>L=(19,.bool p19)::E/\∃κ',Stp [] K13 w10 κ' w') [(4,1),(5,2),(6,1),(7,2),(8,2)] [] tv ?_ ?_
 revert h
 cases ht18:(!x12)
 refine JF λh=>Jb4 tv R (Jc4 (haE (f9.stp S14).cells) I28 Z28 R)<|Jn 1 R<|Ob h λx17 hx17 h=>Jr3 R C63 (oY (κ:=Mk K13) (p0:=p0) (Ji3<|g1.stp<|T3 S3 S7 S14) hx17) ?_
 rintro _ w21 ⟨k22,rfl,e23⟩
 obtain⟨K24,S25,m26⟩:=Ji e23 6 R
 refine Tv<|Jn 2 R ?_
 cases h
 exact Jv1 _ tv ⟨R,_,S25.wk R⟩<|KM R
 refine JT λh=>Jz3 R<|Jn 1 R<|Jz3 R<|Jn 2 R ?_
 cases h
 exact Jv1 _ tv ⟨R,_,Jj3⟩<|KM R
 rintro _ w28 _ ⟨rfl,K29,S30⟩
 have h:=hK17
 refine Jd ?_
 revert h
 cases ht31:p19
 refine JF λh=>Jy R<|Js<|Jp<|Je [1,1,1,1,2,1,1] R ?_
 have f37:=f9.stp (S14.tr S30)
 refine Jb4 tv R (Jc4 (haE f37.cells) I28 Z28 R)<|Ob h λx22 hx22 h=>Jr3 R C103 (fO (κ:=Mk K29) (p0:=p0) hx22) ?_
 rintro _ w38 ⟨k39,rfl,e40⟩
 obtain⟨K41,S42,m43⟩:=Ji e40 6 R
 refine Tv<|Ob h λx23 hx23 h=>Jl1 (κ:=K41) (E:=E6) (z:=(0:Int)) 8 R R R R R R R Y37 bG R R R R R (λ_ _ _=>R) (Ju2 hx23) λav aw w45 K46 S47 f48=>Tv<|Jw3 (κ:=K46) (E:=(Ep.own E6 2)) 9 [8] (parts:=[(0,.tmp 23)]) (cells:=[.slice av x23.length aw]) (xs:=([x23]:List (List Int))) R Y31 bQ R ⟨[.slice av x23.length aw],[],Zl K46 w45 [8],Zl K46 w45 [],R,Zl.sp (l1:=[8]) (l2:=[]) R,Zl.sr (l1:=[8]) (l2:=[]),⟨_,_,R,f48⟩,R⟩ λar au w49 K50 S51 f52=>Tv<|Jf R (bK (parts:=[(0,.tmp 24)]) (cells:=[.slice ar ([x23]:List (List Int)).length au,.slice none 0 0]) R R (by kernel_rfl))<|Jt3 (κ:=K50) 10 R X71 R λb6 w53 K54 S55 f56=>Tv<|Jv3 (κ:=K54) 10 (vc:=[.slice ar ([x23]:List (List Int)).length au,.slice none 0 0]) R Z71 R f56 R λw57 S58 f59=>Tv<|Jd<|Jq<|Jg3 [2,2,2] 1 R<|Jn3 R U29 R R<|Jb 1 R ?_
 have hN60:(p1.length:Int)<=9223372036854775807:=g1.len_le
 refine Ob h λq2 hq62 hK61=>?_
 clear h
 refine Jo3 [4,6] (λE L w'=>∃κ',∃s3:(List<|List Int)×(List Pair),∃aj ak ai al,L=E/\Stp [10,12,13,14,17,19,20,21] K54 w57 κ' w'/\Oc (Ep.own E6 2) 37 κ' w' 9 aj ak s3.1/\Oc Pair.ep127 127 κ' w' 11 ai al s3.2/\Bc κ' w' 10 b6 71 [.slice aj s3.1.length ak,.slice ai s3.2.length al]/\q2=yD s3) ?_ ?_
 refine Jv<|Jp3 [2,4,6,26,27] (λk E L w'=>∃κ' v28,∃s1:(List<|List Int)×(List Pair),∃ao an ap aq,L=(28,vi v28)::E/\Stp [10,12,13,14,17,19,20,21] K54 w57 κ' w'/\Oc (Ep.own E6 2) 37 κ' w' 9 ao an s1.1/\Oc Pair.ep127 127 κ' w' 11 ap aq s1.2/\Bc κ' w' 10 b6 71 [.slice ao s1.1.length an,.slice ap s1.2.length aq]/\0<=v28/\yG ((p1.length:Int)-v28)=k/\cntM (ef p0 p1) k v28 s1=some q2) ⟨_,_,⟨K54,0,((([x23]:List (List Int)):(List<|List Int)),(([]:List Pair):(List Pair))),ar,au,none,0,R,Jj3,(f52.stp<|S55.tr S58),Ow.nil,f59,(by decide),(by simp),hq62⟩,(KM R)⟩ ?_
 rintro k _ w69 ⟨K70,v28,s1,ao,an,ap,aq,rfl,S71,f72,f73,f74,hj60,hJ60,h⟩
 rcases k with _ | k
 have hk76:=h;obtain⟨o60,h⟩:=bT (yD (yE s1):(Det×Bool)⊕(((List (List Int))×(List Pair))⊕((List (List Int))×(List Pair))))
 have hc60:decide (v28<(p1.length:Int))=false:=Jo2 (by omega)
 refine Je3 R<|Jq<|Jw2 R hc60<|Jc1<|Jt<|Jt ?_
 cases h
 have h:=hk76
 refine Jb1 ?_
 cases h
 exact Jw1 _ ⟨K70,(s1.1,s1.2),ao,an,ap,aq,R,S71.wk R,f72,f73,f74,R⟩<|KM R
 obtain⟨o60,h,hk76⟩:=BI h;unfold ef at h
 have hc60:decide (v28<(p1.length:Int))=true:=Jn2 (by omega)
 refine Je3 R<|Jq<|Jv2 R hc60<|Js<|Jp<|Jq<|Jv<|Je [2,1,1,1] R<|Ob h λx30 hx30 h=>Jc3 R g1 hx30 U29 Z67 ?_
 obtain⟨cse78,hre78,hle78⟩:=((g1.stp (T10 S3 S7 S14 S30 S42 S47 S51 S55 S58 S71))).gSt hx30
 obtain⟨ae78_0,ue78_0,ae78_1,ue78_1,rfl,fe78_0,fe78_1⟩:=Clause.un hre78
 refine Jb4 tv R (Jc4 (haE hle78) I67 Z67 R)<|Jt3 (κ:=K70) 12 R X67 R λb8 w79 K80 S81 f82=>Tv<|Jv3 (κ:=K80) 12 (vc:=[vi x30.Kind,.slice ae78_0 x30.A.length ue78_0,.slice ae78_1 x30.B.length ue78_1]) R Z67 R f82 R λw83 S84 f85=>Tv<|Jd<|Jq<|Ob h λx36 hx36 h=>Ob h λx37 hx37 h=>Jo3 [2,4,6,26,27,28] (λE L w'=>∃κ' b9 af am ah ae,L=(9,.pointer (some ⟨b9,0,none⟩))::(10,.bool x37.2)::E/\Stp [13,17,19,20,21] K80 w83 κ' w'/\Oc (Ep.own E6 2) 37 κ' w' 13 af am x37.1.Next/\Oc Pair.ep127 127 κ' w' 14 ah ae x37.1.Pairs/\Bc κ' w' 15 b9 71 [.slice af x37.1.Next.length am,.slice ah x37.1.Pairs.length ae]) ?_ ?_
 refine WC.rxt (κ:=K80) [2,10,12] none (by kernel_rfl) λw93 S94=>Jq1 (fuel:=8) [(0,0),(1,0),(2,0)] (by kernel_rfl) (by kernel_rfl) R<|Jg R (Jc4 (haC (f74.stp<|T3 S81 S84 S94).cells R) I71 Z71 R)<|Jg R (Jc4 (haC (f37.stp<|T9 S42 S47 S51 S55 S58 S71 S81 S84 S94).cells R) I28 Z28 R)<|Jg R (Jc4 (haC (f85.stp S94).cells R) I67 Z67 R)<|Jp1<|WA.fork2 (fuel:=7) 3 8 (by kernel_rfl) R ?_ ?_
 refine Jr3 R C105 (mD (κ:=Mk K80) (p0:=p0) (p1:=x30) (Ji3<|fe78_0.stp<|T3 S81 S84 S94) (Ji3<|fe78_1.stp<|T3 S81 S84 S94) hx36) ?_
 rintro _ w100 ⟨k101,aA,az,ay,ax,rfl,e102,f103,f104⟩
 obtain⟨K105,S106,m107⟩:=Ji e102 13 R
 refine⟨(S106.cl R),?_⟩
 have f109:=f103.mx (cR (bL _) _) m107 R (R:13+2=15)
 have f110:=f104.mx Pair.no127 m107 R (R:13+3=16)
 refine Jp1<|WA.fork2 (fuel:=6) 4 8 (by kernel_rfl) R ?_ ?_
 have S001:=(T4 S81 S84 S94 S106)
 refine Jr3 R C104 (jE (κ:=Mk K105) (p0:=(⟨s1.1,s1.2⟩:Det)) (p1:=x36) (Ji3 (f72.stp S001).rdc) (Ji3 (f73.stp S001).rdc) (Ji3 f109.rdc) (Ji3 f110.rdc) hx37) ?_
 rintro _ w113 ⟨k114,aa,ab,ad,ac,rfl,e115,f116,f117⟩
 obtain⟨K118,S119,m120⟩:=Ji e115 17 R
 have S002:=(S106.tr S119)
 exact⟨(S002.cl R),Jp1<|Jq1 (fuel:=0) [(5,2),(6,2),(7,2),(8,1),(9,1),(10,2)] (by kernel_rfl) (by kernel_rfl) R<|Jn 3 R<|Jt3 (κ:=K118) 21 R X71 R λb9 w124 K125 S126 f127=>⟨((S002.tr S126).cl R),Jv3 (κ:=K125) 21 (vc:=[.slice aa x37.1.Next.length ab,.slice ad x37.1.Pairs.length ac]) R Z71 R f127 R λw128 S129 f130=>⟨((T3 S002 S126 S129).cl R),Jn 1 R<|Jp1<|Jr1 [] (by kernel_rfl) (by kernel_rfl) R<|Jo<|Jw1 _ ⟨(λb=>ren [(19,13),(20,14),(21,15)]<|K125 b),b9,aa,ab,ad,ac,R,(Jy2 ((T5 S94 S106 S119 S126 S129).wk R) [(19,13),(20,14),(21,15)] R),(((f116.mx (cR (bL _) _) m120 R (R:17+2=19)).stp (S126.tr S129)).map (ren [(19,13),(20,14),(21,15)]) R R),(((f117.mx Pair.no127 m120 R (R:17+3=20)).stp (S126.tr S129)).map (ren [(19,13),(20,14),(21,15)]) R R),(f130.map (ren [(19,13),(20,14),(21,15)]) R R)⟩<|KM R⟩⟩⟩
 have S003:=(T4 S81 S84 S94 S106)
 refine Jt3 (κ:=K105) 17 R X71 R λb9 w133 K134 S135 f136=>⟨((S106.tr S135).cl R),Jp1<|Jq1 (fuel:=0) [(4,1),(5,2),(6,2),(7,2),(9,1),(10,2)] (by kernel_rfl) (by kernel_rfl) R<|Jr3 R C104 (jE (κ:=Mk K134) (p0:=(⟨s1.1,s1.2⟩:Det)) (p1:=x36) (Ji3 (f72.stp<|S003.tr S135).rdc) (Ji3 (f73.stp<|S003.tr S135).rdc) (Ji3 (f109.stp S135).rdc) (Ji3 (f110.stp S135).rdc) hx37) ?_⟩
 rintro _ w141 ⟨k142,aa,ab,ad,ac,rfl,e143,f144,f145⟩
 obtain⟨K146,S147,m148⟩:=Ji e143 18 R
 have S004:=(T3 S106 S135 S147)
 exact⟨(S004.cl R),Jn 3 R<|Jv3 (κ:=K146) 17 (vc:=[.slice aa x37.1.Next.length ab,.slice ad x37.1.Pairs.length ac]) R Z71 R (f136.stp S147) R λw153 S154 f155=>⟨((S004.tr S154).cl R),Jn 1 R<|Jp1<|Jr1 [] (by kernel_rfl) (by kernel_rfl) R<|Jo<|Jw1 _ ⟨(λb=>ren [(20,13),(21,14),(17,15)]<|K146 b),b9,aa,ab,ad,ac,R,(Jy2 ((T5 S94 S106 S135 S147 S154).wk R) [(20,13),(21,14),(17,15)] R),(((f144.mx (cR (bL _) _) m148 R (R:18+2=20)).stp S154).map (ren [(20,13),(21,14),(17,15)]) R R),(((f145.mx Pair.no127 m148 R (R:18+3=21)).stp S154).map (ren [(20,13),(21,14),(17,15)]) R R),(f155.map (ren [(20,13),(21,14),(17,15)]) R R)⟩<|KM R⟩⟩
 refine Jt3 (κ:=K80) 13 R X71 R λb9 w158 K159 S160 f161=>⟨(S160.cl R),Jp1<|Jq1 (fuel:=0) [(3,1),(4,1),(5,2),(6,2),(7,2),(9,1),(10,2)] (by kernel_rfl) (by kernel_rfl) R<|Jr3 R C105 (mD (κ:=Mk K159) (p0:=p0) (p1:=x30) (Ji3<|fe78_0.stp<|T4 S81 S84 S94 S160) (Ji3<|fe78_1.stp<|T4 S81 S84 S94 S160) hx36) ?_⟩
 rintro _ w164 ⟨k165,aA,az,ay,ax,rfl,e166,f167,f168⟩
 obtain⟨K169,S170,m171⟩:=Ji e166 14 R
 have S005:=(T5 S81 S84 S94 S160 S170)
 refine⟨((S160.tr S170).cl R),Jr3 R C104 (jE (κ:=Mk K169) (p0:=(⟨s1.1,s1.2⟩:Det)) (p1:=x36) (Ji3 (f72.stp S005).rdc) (Ji3 (f73.stp S005).rdc) (Ji3 (f167.mx (cR (bL _) _) m171 R (R:14+2=16)).rdc) (Ji3 (f168.mx Pair.no127 m171 R (R:14+3=17)).rdc) hx37) ?_⟩
 rintro _ w177 ⟨k178,aa,ab,ad,ac,rfl,e179,f180,f181⟩
 obtain⟨K182,S183,m184⟩:=Ji e179 18 R
 have S006:=(T3 S160 S170 S183)
 exact⟨(S006.cl R),Jn 3 R<|Jv3 (κ:=K182) 13 (vc:=[.slice aa x37.1.Next.length ab,.slice ad x37.1.Pairs.length ac]) R Z71 R (f161.stp<|S170.tr S183) R λw189 S190 f191=>⟨((S006.tr S190).cl R),Jn 1 R<|Jp1<|Jr1 [] (by kernel_rfl) (by kernel_rfl) R<|Jo<|Jw1 _ ⟨(λb=>ren [(20,13),(21,14),(13,15)]<|K182 b),b9,aa,ab,ad,ac,R,(Jy2 ((T5 S94 S160 S170 S183 S190).wk R) [(20,13),(21,14),(13,15)] R),(((f180.mx (cR (bL _) _) m184 R (R:18+2=20)).stp S190).map (ren [(20,13),(21,14),(13,15)]) R R),(((f181.mx Pair.no127 m184 R (R:18+3=21)).stp S190).map (ren [(20,13),(21,14),(13,15)]) R R),(f191.map (ren [(20,13),(21,14),(13,15)]) R R)⟩<|KM R⟩⟩
 rintro _ w86 ⟨K87,b9,af,am,ah,ae,rfl,S88,f90,f91,f92⟩
 refine Jp<|Jq<|Je3 R ?_
 revert h
 cases ht194:(!x37.2)
 refine JF λh=>Jy R<|Js<|Jp<|Ja [1,1] R<|Jb4 tv R (Jc4 (haE f92.cells) I71 Z71 R)<|Jv3 (κ:=K87) 10 (vc:=[.slice af x37.1.Next.length am,.slice ah x37.1.Pairs.length ae]) R Z71 R (f74.stp<|T3 S81 S84 S88) R λw201 S202 f203=>Tv<|Jo<|Jz<|Jp<|Jf3 R ?_
 have hw60:yC .i64 (v28+1)=v28+1:=wr1 hj60 (Jm2 hc60) hN60
 rw[hw60]
 have hc60:=Jm2 hc60
 cases h
 exact Jz1 λa ha=>⟨k,_,Ja3 _,⟨(λb=>ren [(13,9),(14,11)]<|K87 b),v28+1,(x37.1.Next,x37.1.Pairs),af,am,ah,ae,R,(Jy2 ((T5 S71 S81 S84 S88 S202).wk R) [(13,9),(14,11)] R),((f90.stp S202).map (ren [(13,9),(14,11)]) R R),((f91.stp S202).map (ren [(13,9),(14,11)]) R R),(f203.map (ren [(13,9),(14,11)]) R R),by omega,by omega,hk76⟩,(ha.mm R)⟩
 refine JT λh=>Jx R<|Je [2,1,2] R<|Jf R (bK (parts:=[]) (cells:=[.slice none 0 0,.slice none 0 0]) R R (by kernel_rfl))<|Jv3 (κ:=K87) 3 (vc:=[.slice none 0 0,.slice none 0 0]) R Z71 R (f8.stp<|T11 S14 S30 S42 S47 S51 S55 S58 S71 S81 S84 S88) R λw196 S197 f198=>Tv<|Jb 1 R<|Ju<|Jw<|Ja1<|Jw<|Jw ?_
 cases h
 obtain rfl:=Option.some.inj hk76
 have h:=yL hK61
 refine Ja1<|Jq2<|Jw<|Ja2 (l:=[.cell 4 71,.tmp 5]) V41 (bM R f198 I71 Z71 R<|Jp2 R R) R ?_
 cases h
 exact⟨K87,none,0,none,0,R,(hE.stp<|T14 S3 S7 S14 S30 S42 S47 S51 S55 S58 S71 S81 S84 S88 S197),Ow.nil,Ow.nil⟩
 rintro _ w63 ⟨K64,s3,aj,ak,ai,al,rfl,S65,f66,f67,f68,rfl⟩
 have h:=yI hK61
 refine Jp<|Je [1,1,2] R<|Jb4 tv R (Jc4 (haE f68.cells) I71 Z71 R)<|Jv3 (κ:=K64) 3 (vc:=[.slice aj s3.1.length ak,.slice ai s3.2.length al]) R Z71 R (f8.stp<|T8 S14 S30 S42 S47 S51 S55 S58 S65) R λw207 S208 f209=>Tv<|Jb 1 R<|Ju<|Ja2 (l:=[.cell 4 71,.tmp 5]) V41 (bM R f209 I71 Z71 R<|Jp2 R R) R ?_
 cases h
 exact⟨(λb=>ren [(9,2),(11,3)]<|K64 b),aj,ak,ai,al,R,((hE.stp<|T11 S3 S7 S14 S30 S42 S47 S51 S55 S58 S65 S208).map (ren [(9,2),(11,3)]) R R),((f66.stp S208).map (ren [(9,2),(11,3)]) R R),((f67.stp S208).map (ren [(9,2),(11,3)]) R R)⟩
 refine JT λh=>Jx R<|Je [2,1,2] R<|Jf R (bK (parts:=[]) (cells:=[.slice none 0 0,.slice none 0 0]) R R (by kernel_rfl))<|Jv3 (κ:=K29) 3 (vc:=[.slice none 0 0,.slice none 0 0]) R Z71 R (f8.stp<|S14.tr S30) R λw33 S34 f35=>Tv<|Jb 1 R<|Ju<|Jw<|Ja2 (l:=[.cell 4 71,.tmp 5]) V41 (bM R f35 I71 Z71 R<|Jp2 R R) R ?_
 cases h
 exact⟨K29,none,0,none,0,R,(hE.stp<|T5 S3 S7 S14 S30 S34),Ow.nil,Ow.nil⟩
theorem p7 {p0:Sig}{a1 u1}{p1:(List Clause)}(g1:Rd Clause.rp κ w 0 a1 u1 p1){r:Machine×Bool}(h:gC p0 p1=some r):Ret Tryz.prog 11 [.agg #[vi p0.In,vi p0.Out],.slice a1 p1.length u1] w (λv w'=>∃(κ':Col) (ra0:Option Addr) (ru0:Nat) (ra1:Option Addr) (ru1:Nat),v= .tuple #[.agg #[.slice ra0 r.1.Next.length ru0,.slice ra1 r.1.Out.length ru1],.bool r.2]/\Ent κ w κ' w'/\Oc (Ep.own E6 2) 37 κ' w' 2 ra0 ru0 r.1.Next/\Oc (Ep.own E6 2) 37 κ' w' 3 ra1 ru1 r.1.Out):=by
 unfold gC at h
 refine Jk3 κ F11 R N11 R λhE=>Je [1,1,2] R<|Js3 (κ:=κ) 2 R λb2 w1 K2 S3 f4=>Tv<|Jt3 (κ:=K2) 3 R X33 R λb4 w5 K6 S7 f8=>Tv<|Jb 1 R<|Je [1,2,1,2,2,2,1,1,2] R ?_
 have f9:=f4.stp S7
 refine Jb4 tv R (Jc4 (haE f9.cells) I28 Z28 R)<|Jn 1 R<|Ob h λx27 hx27 h=>Jr3 R C41 (me (κ:=Mk K6) (p0:=p0) (Ji3<|g1.stp<|S3.tr S7) hx27) ?_
 rintro _ w11 ⟨k12,aJ,bb,aL,aK,rfl,e13,f14,f15⟩
 obtain⟨K16,S17,m18⟩:=Ji e13 4 R
 refine Tv<|Jn 3 R<|Jt3 (κ:=K16) 8 R X71 R λb6 w22 K23 S24 f25=>Tv<|Jv3 (κ:=K23) 8 (vc:=[.slice aJ x27.1.Next.length bb,.slice aL x27.1.Pairs.length aK]) R Z71 R f25 R λw26 S27 f28=>Tv<|Jb 1 R<|Jq<|Je3 R ?_
 revert h
 cases ht29:(!x27.2)
 refine JF λh=>Jy R<|Js<|Jp<|Je [1,1,1,2,2,2,1,1,2] R ?_
 have f35:=f9.stp (T3 S17 S24 S27)
 refine Jb4 tv R (Jc4 (haE f35.cells) I28 Z28 R)<|Jb4 tv R (Jc4 (haE f28.cells) I71 Z71 R)<|Ob h λx36 hx36 h=>?_
 have f36:=(f14.mx (cR (bL _) _) m18 R (R:4+2=6)).stp (S24.tr S27)
 have f37:=(f15.mx Pair.no127 m18 R (R:4+3=7)).stp (S24.tr S27)
 refine Jr3 R C42 (mb (κ:=Mk K23) (p0:=p0) (p1:=x27.1) (Ji3 f36.rdc) (Ji3 f37.rdc) hx36) ?_
 rintro _ w38 ⟨k39,aZ,aY,aW,aV,bx,bn,rfl,e40,f41,f42,f43⟩
 obtain⟨K44,S45,m46⟩:=Ji e40 9 R
 refine Tv<|Jn 3 R<|Jt3 (κ:=K44) 14 R X75 R λb8 w51 K52 S53 f54=>Tv<|Jv3 (κ:=K52) 14 (vc:=[.slice aZ x36.1.Owner.length aY,.slice aW x36.1.Next.length aV]) R Z75 R f54 R λw55 S56 f57=>Tv<|Jb 1 R<|Je [1,2,1,2,2,2,2,1,1,1,1,2] R<|Jb4 tv R (Jc4 (haE f57.cells) I75 Z75 R)<|Jn 1 R ?_
 obtain⟨K59,S60,z61⟩:=fV K52 w55 11
 obtain⟨K64,S65,z66⟩:=fV K59 w55 12
 obtain⟨K69,S70,z71⟩:=fV K64 w55 13
 refine Ob h λx42 hx42 h=>Jr3 R C43 (na (κ:=λb=>mp [] 1<|K69 b) (p0:=x36.1) (Jl2 ((Sl.st z61 ((f41.mx (bL _) m46 R (R:9+2=11)).stp (S53.tr S56)).rdc).stp (S65.tr S70)) (mp [] 1) R R) (Jl2 ((Sl.st z66 ((f42.mx (cR (bL _) _) m46 R (R:9+3=12)).stp (T3 S53 S56 S60)).rdc).stp S70) (mp [] 1) R R) (Jl2 (Sl.st z71 ((f43.mx Pair.no127 m46 R (R:9+4=13)).stp (T4 S53 S56 S60 S65)).rdc) (mp [] 1) R R) hx42) ?_
 rintro _ w75 ⟨k76,aT,aU,ba,aN,aX,aM,aS,aO,rfl,e77,f78,f79,f80,f81⟩
 obtain⟨K82,S83,m84,z85⟩:=Jj e77 15 R
 refine Tv<|?_
 have f86:=f78.mx (bL _) m84 R (R:15+2=17)
 have f87:=f79.mxz z85 m84 R (R:15+3=18)
 have f88:=f80.mx (bL _) m84 R (R:15+4=19)
 have f89:=f81.mxz z85 m84 R (R:15+5=20)
 refine Jn 4 R<|Jt3 (κ:=K82) 21 R X79 R λb10 w90 K91 S92 f93=>Tv<|Jt3 (κ:=K91) 22 R X80 R λb11 w94 K95 S96 f97=>Tv<|Jv3 (κ:=K95) 21 (vc:=[.slice aT x42.1.Arena.Owner.length aU,.slice ba x42.1.Arena.Next.length aN,.slice aX x42.1.Prio.length aM]) R Z79 R (f93.stp S96) R λw99 S100 f101=>Tv<|Jv3 (κ:=K95) 22 (vc:=[.slice aS x42.2.1.length aO]) R Z80 R (f97.stp S100) R λw103 S104 f105=>Tv<|Jb 1 R<|Jq<|Jg3 [2,2,2,1,1,2,1,2,2] 3 R<|Ob h λp54 h hK106=>Jq3 [2,4,6,10,11] (λE L w'=>L=(54,.bool p54)::E/\∃κ',Stp [] K95 w103 κ' w') [(3,1),(4,1),(5,2),(6,1),(7,2),(8,2)] [] tv ?_ ?_
 revert h
 cases ht107:(!x42.2.2)
 have S001:=(T4 S92 S96 S100 S104)
 refine JF λh=>Jb4 tv R (Jc4 (haE (f101.stp S104).cells) I79 Z79 R)<|Ob h λx50 hx50 h=>Jr3 R C44 (lD (κ:=Mk K95) (p0:=x42.1) (Ji3 (f86.stp S001).rdc) (Ji3 (f87.stp S001).rdc) (Ji3 (f88.stp S001).rdc) hx50) ?_
 rintro _ w112 ⟨k113,bo,bk,rfl,e114,f115⟩
 obtain⟨K116,S117,m118⟩:=Ji e114 23 R
 refine Tv<|?_
 have f120:=f115.mx (bL _) m118 R (R:23+2=25)
 refine Ob h λx51 hx51 h=>Jc3 R f120.rdc hx51 U37 Z2<|Jb3 R I2 (f120.rdc.gInt hx51)<|Jn 2 R ?_
 cases h
 exact Jv1 _ tv ⟨R,_,S117.wk R⟩<|KM R
 refine JT λh=>Jz3 R<|Jz3 R<|Jn 1 R<|Jz3 R<|Jn 2 R ?_
 cases h
 exact Jv1 _ tv ⟨R,_,Jj3⟩<|KM R
 rintro _ w121 _ ⟨rfl,K122,S123⟩
 have h:=hK106
 refine Jd ?_
 revert h
 cases ht124:p54
 refine JF λh=>Jy R<|Js<|Jp<|Je [1,1,2,2] R ?_
 have f130:=f101.stp (S104.tr S123)
 refine Jb4 tv R (Jc4 (haE f130.cells) I79 Z79 R)<|Ob h λx57 hx57 h=>?_
 have f132:=f87.stp (T5 S92 S96 S100 S104 S123)
 have S002:=(T5 S92 S96 S100 S104 S123)
 refine Jr3 R C45 (sU (κ:=Mk K122) (p0:=x42.1) (Ji3 (f86.stp S002).rdc) (Ji3 f132.rdc) (Ji3 (f88.stp S002).rdc) hx57) ?_
 rintro _ w134 ⟨k135,bD,bz,bA,br,rfl,e136,f137,f138⟩
 obtain⟨K139,S140,m141⟩:=Ji e136 23 R
 refine Tv<|?_
 have f144:=f138.mx (bL _) m141 R (R:23+3=26)
 refine Jf R (vj U85 R I37 R R R)<|Jb 1 R<|Je [2,1,2,1,1] R<|Jd3 R U71 R Z31 ?_
 have f145:=f28.stp (T13 S45 S53 S56 S60 S65 S70 S83 S92 S96 S100 S104 S123 S140)
 refine Jb3 R I31 (f145.ld 0 R R)<|Jn3 R U31 R R<|Jt3 (κ:=K139) 27 R X2 R λb13 w146 K147 S148 f149=>Tv<|Jv3 (κ:=K147) 27 (vc:=[vi (x27.1.Next.length:Int)]) R Z2 R f149 R λw150 S151 f152=>Tv<|Jd<|Je [1,2] R<|Jw3 (κ:=K147) (E:=E6) 28 [] (parts:=[(0,.const (vi 0))]) (cells:=[vi 0]) (xs:=([0]:List Int)) R Y37 bG R ⟨[vi 0],[],Zl K147 w150 [],Zl K147 w150 [],R,Zl.sp (l1:=[]) (l2:=[]) R,Zl.sr (l1:=[]) (l2:=[]),R,R⟩ λaQ bh w153 K154 S155 f156=>Tv<|Jb 1 R<|Je [2,1,1] R<|Jf R (bK (parts:=[]) (cells:=[.slice none 0 0,.slice none 0 0]) R R (by kernel_rfl))<|Jt3 (κ:=K154) 29 R X33 R λb15 w157 K158 S159 f160=>Tv<|Jv3 (κ:=K158) 29 (vc:=[.slice none 0 0,.slice none 0 0]) R Z33 R f160 R λw161 S162 f163=>Tv<|Jd<|Jq<|Je3 R<|Ob h λq2 hq166 hK165=>?_
 clear h
 refine Jo3 [4,15] (λE L w'=>∃κ',∃s3:(List Int)×Int×(List<|List Int)×(List<|List Int),∃aG aE al ai ac ao,L=(14,.slice aG s3.1.length aE)::E/\Stp [28,29,30,31,32,33,34,37,38] K158 w161 κ' w'/\Oc E6 2 κ' w' 28 aG aE s3.1/\Oc (Ep.own E6 2) 37 κ' w' 30 al ai s3.2.2.1/\Oc (Ep.own E6 2) 37 κ' w' 31 ac ao s3.2.2.2/\Bc κ' w' 29 b15 33 [.slice al s3.2.2.1.length ai,.slice ac s3.2.2.2.length ao]/\q2=yD s3) ?_ ?_
 refine Jv<|Jp3 [2,4,6,10,11,12,13,15] (λk E L w'=>∃κ',∃s1:(List Int)×Int×(List<|List Int)×(List<|List Int),∃ab aa ar aC ae af,L=(14,.slice ab s1.1.length aa)::(16,vi s1.2.1)::E/\Stp [28,29,30,31,32,33,34,37,38] K158 w161 κ' w'/\Oc E6 2 κ' w' 28 ab aa s1.1/\Oc (Ep.own E6 2) 37 κ' w' 30 ar aC s1.2.2.1/\Oc (Ep.own E6 2) 37 κ' w' 31 ae af s1.2.2.2/\Bc κ' w' 29 b15 33 [.slice ar s1.2.2.1.length aC,.slice ae s1.2.2.2.length af]/\ca (fN p0 x27 x42 x57) k s1=some q2) ⟨_,_,⟨K158,((([0]:List Int):(List Int)),(0:Int),(([]:List (List Int)):(List<|List Int)),(([]:List (List Int)):(List<|List Int))),aQ,bh,none,0,none,0,R,Jj3,(f156.stp<|S159.tr S162),Ow.nil,Ow.nil,f163,hq166⟩,(KM R)⟩ ?_
 rintro k _ w174 ⟨K175,s1,ab,aa,ar,aC,ae,af,rfl,S176,f177,f178,f179,f180,h⟩
 rcases k with _ | k
 cases h
 obtain⟨o164,h,hk182⟩:=BI h;unfold fN at h
 refine Jq<|Jg3 [2,2,2,2] 2 R<|Jn3 R U37 R R<|Jb 1 R ?_
 revert h
 cases ht183:decide (s1.2.1<(s1.1.length:Int))
 refine JF λh=>Jy R<|Jc1<|Jt<|Jt ?_
 cases h
 have h:=hk182
 refine Jb1 ?_
 cases h
 exact Jw1 _ ⟨K175,(s1.1,s1.2.1,s1.2.2.1,s1.2.2.2),ab,aa,ar,aC,ae,af,R,S176.wk R,f177,f178,f179,f180,R⟩<|KM R
 refine JT λh=>Jx R<|Js<|Jp<|Jq<|Jv<|Jq<|Js1 (κ:=K175) [0,20,22,28] none [(1,2),(2,2),(3,2),(0,0),(4,0),(5,2),(6,2),(7,0),(8,1),(9,1)] [] (by kernel_rfl) (by kernel_rfl) λw185 S184=>Jn 2 R<|Ob h λx73 hx73 h=>Jc3 R f177.rdc hx73 U37 Z2 ?_
 have f186:=f105.stp (T9 S123 S140 S148 S151 S155 S159 S162 S176 S184)
 refine Jg R (Jc2 I80 R R<|hvC (f186.ld 0 R R) R) ?_
 have f187:=f177.stp S184
 refine Jg R (Jc2 I2 R R<|hvC (f187.rdc.gInt hx73) R)<|Ob h λx75 hx75 h=>Jc3 R f89.rdc hx75 U80 Z88<|Jd3 R U88 R Z2 ?_
 have f188:=f89.stp (T13 S92 S96 S100 S104 S123 S140 S148 S151 S155 S159 S162 S176 S184)
 obtain⟨cse189,hre189,hle189⟩:=Ow.gZS f188 hx75
 obtain⟨ae189_0,ue189_0,rfl,fe189_0⟩:=Place.un hre189
 refine Jg R (Jc2 I2 R R<|hvC (λw' hw'=>hle189 w' hw' 0 _ R) R)<|Jt3 (κ:=K175) 32 R X2 R λb17 w190 K191 S192 f193=>⟨(S192.cl R),Jv3 (κ:=K191) 32 (vc:=[vi x75.At]) R Z2 R f193 R λw194 S195 f196=>⟨((S192.tr S195).cl R),Jt1<|Jd<|Je [1,1,2,2] R<|Jx3 (κ:=K191) (E:=E6) 33 R Y37 bG R λaH bg w197 K198 S199 f200=>Tv<|Jx3 (κ:=K198) (E:=E6) 34 R Y37 bG R λbi be w201 K202 S203 f204=>Tv<|Jb 2 R<|Jq<|Je [1,1,2] R ?_⟩⟩
 have f205:=f35.stp (S45.tr (S53.tr (S56.tr (S60.tr (S65.tr (S70.tr (S83.tr (S92.tr (S96.tr (S100.tr (S104.tr (S123.tr (S140.tr (S148.tr (S151.tr (S155.tr (S159.tr (S162.tr (S176.tr (S184.tr (S192.tr (S195.tr (S199.tr S203)))))))))))))))))))))))
 refine Jb4 tv R (Jc4 (haE f205.cells) I28 Z28 R)<|Ob h λx81 hx81 h=>Jr3 R C46 (fZ (κ:=Mk K202) (p0:=p0) hx81) ?_
 rintro _ w206 ⟨k207,rfl,e208⟩
 obtain⟨K209,S210,m211⟩:=Ji e208 35 R
 refine Tv<|Jb 1 R<|Ob h λ_ hr213 h=>?_
 have hN213:=jo hr213
 refine Ob h λq5 hq215 hK214=>?_
 clear h
 refine Jo3 [2,4,6,10,11,12,13,15,16] (λE L w'=>∃κ',∃s6:(List Int)×(List Int)×(List Int),∃au av ah am an aj,L=(14,.slice au s6.1.length av)::(18,.slice ah s6.2.1.length am)::(19,.slice an s6.2.2.length aj)::E/\Stp [28,33,34,37] K209 w206 κ' w'/\Oc E6 2 κ' w' 28 au av s6.1/\Oc E6 2 κ' w' 33 ah am s6.2.1/\Oc E6 2 κ' w' 34 an aj s6.2.2/\q5=yD s6) ?_ ?_
 refine Jv<|Jp3 [2,4,6,10,11,12,13,15,16,17,81] (λk E L w'=>∃κ' v82,∃s4:(List Int)×(List Int)×(List Int),∃ad ak ap aw ay ax,L=(14,.slice ad s4.1.length ak)::(18,.slice ap s4.2.1.length aw)::(19,.slice ay s4.2.2.length ax)::(82,vi v82)::E/\Stp [28,33,34,37] K209 w206 κ' w'/\Oc E6 2 κ' w' 28 ad ak s4.1/\Oc E6 2 κ' w' 33 ap aw s4.2.1/\Oc E6 2 κ' w' 34 ay ax s4.2.2/\0<=v82/\yG (x81-v82)=k/\cntM (en p0 x27 x42 x57 s1 x75) k v82 s4=some q5) ⟨_,_,⟨K209,0,(s1.1,(([]:List Int):(List Int)),(([]:List Int):(List Int))),ab,aa,aH,bg,bi,be,R,Jj3,(f187.stp<|T5 S192 S195 S199 S203 S210),(f200.stp<|S203.tr S210),(f204.stp S210),(by decide),(by simp),hq215⟩,(KM R)⟩ ?_
 rintro k _ w222 ⟨K223,v82,s4,ad,ak,ap,aw,ay,ax,rfl,S224,f225,f226,f227,hj213,hJ213,h⟩
 rcases k with _ | k
 have hk231:=h;obtain⟨o213,h⟩:=bT (yD (yE s4):(Machine×Bool)⊕(((List Int)×(List Int)×(List Int))⊕((List Int)×(List Int)×(List Int))))
 have hc213:decide (v82<x81)=false:=Jo2 (by omega)
 refine Je3 R<|Jq<|Jw2 R hc213<|Jc1<|Jt<|Jt ?_
 cases h
 have h:=hk231
 refine Jb1 ?_
 cases h
 exact Jw1 _ ⟨K223,(s4.1,s4.2.1,s4.2.2),ad,ak,ap,aw,ay,ax,R,S224.wk R,f225,f226,f227,R⟩<|KM R
 obtain⟨o213,h,hk231⟩:=BI h;unfold en at h
 have hc213:decide (v82<x81)=true:=Jn2 (by omega)
 refine Je3 R<|Jq<|Jv2 R hc213<|Js<|Jp<|Jq<|Jv<|Jg3 [2,1,1] 1 R<|Jt3 (κ:=K223) 37 R X2 R λb20 w232 K233 S234 f235=>Tv<|Jv3 (κ:=K233) 37 (vc:=[vi v82]) R Z2 R f235 R λw236 S237 f238=>Tv<|Jd<|Jq<|Js1 (κ:=K233) [0,18,21,28] none [(0,2),(1,2),(3,2),(4,2),(5,2),(9,2),(2,0),(6,0),(7,2),(8,0),(10,1),(11,2)] [] (by kernel_rfl) (by kernel_rfl) λw240 S239=>Jd3 R U79 R Z75<|Jd3 R U75 R Z31<|Jn 2 R<|Ob h λx90 hx90 h=>Jc3 R f225.rdc hx90 U37 Z2<|Jf R (gM (first:=[]) (captured:=[.tmp 11,.tmp 13,.tmp 17,.tmp 2,.tmp 20]) R R R ⟨_,R⟩) ?_
 have f241:=f130.stp (S140.tr (S148.tr (S151.tr (S155.tr (S159.tr (S162.tr (S176.tr (S184.tr (S192.tr (S195.tr (S199.tr (S203.tr (S210.tr (S224.tr (S234.tr (S237.tr S239))))))))))))))))
 refine Jg R (Jc2 I31 R R<|hvC (f241.ld 1 R R) R) ?_
 have f242:=f225.stp (T3 S234 S237 S239)
 refine Jg R (Jc2 I2 R R<|hvC (f242.rdc.gInt hx90) R)<|Ob h λx92 hx92 h=>Jc3 R f132.rdc hx92 U31 Z37 ?_
 have f243:=f132.stp (S140.tr (S148.tr (S151.tr (S155.tr (S159.tr (S162.tr (S176.tr (S184.tr (S192.tr (S195.tr (S199.tr (S203.tr (S210.tr (S224.tr (S234.tr (S237.tr S239))))))))))))))))
 obtain⟨ax92,ux92,f244,hl245⟩:=f243.gZ hx92
 refine Jg R (Jc2 I37 R R<|hvC hl245 R)<|Ob h λx95 hx95 h=>?_
 have f246:=f188.stp (T9 S192 S195 S199 S203 S210 S224 S234 S237 S239)
 have f247:=f186.stp (T9 S192 S195 S199 S203 S210 S224 S234 S237 S239)
 have f249:=f196.stp (T7 S199 S203 S210 S224 S234 S237 S239)
 have f250:=f205.stp (T5 S210 S224 S234 S237 S239)
 have f251:=f238.stp S239
 refine Jr3 R C47 (eG (κ:=Mk K233) (c1_3:=p0) (Ji3 f244) (Ji3 f246.rdc) (f247.map (mp [] 0) R R) ((f152.stp<|T14 S155 S159 S162 S176 S184 S192 S195 S199 S203 S210 S224 S234 S237 S239).map (mp [] 0) R R) (f249.map (mp [] 0) R R) (f250.map (mp [] 0) R R) (f251.map (mp [] 0) R R) hx95) ?_
 rintro _ w252 ⟨k253,rfl,e254⟩
 obtain⟨K255,S256,m257⟩:=Ji e254 38 R
 refine⟨(S256.cl R),Jn 1 R<|Jt1<|Jd<|Jq<|Js1 (κ:=K255) [0,18,21,26,28] none [(0,2),(1,2),(2,2),(4,2),(5,2),(6,2),(10,2),(3,0),(7,0),(8,2),(9,0),(11,2),(12,0),(13,2),(14,0),(15,2)] [] (by kernel_rfl) (by kernel_rfl) λw260 S259=>Jn 1 R<|Jd3 R U79 R Z75<|Jd3 R U75 R Z31<|Jn 2 R<|Ob h λx102 hx102 h=>Jc3 R f242.rdc hx102 U37 Z2<|Jn 1 R<|Jg R (Jc2 I31 R R<|hvC ((f241.stp<|S256.tr S259).ld 1 R R) R) ?_⟩
 have f262:=f242.stp (S256.tr S259)
 refine Jg R (Jc2 I2 R R<|hvC (f262.rdc.gInt hx102) R)<|Ob h λx104 hx104 h=>Jc3 R f243.rdc hx104 U31 Z37 ?_
 obtain⟨ax104,ux104,f264,hl265⟩:=(f243.stp (S256.tr S259)).gZ hx104
 refine Jg R (Jc2 I37 R R<|hvC hl265 R)<|Ob h λx107 hx107 h=>Jc3 R f264 hx107 U37 Z2<|Jg R (Jc2 I2 R R<|hvC (f264.gInt hx107) R)<|Ob h λx109 hx109 h=>Jc3 R f144.rdc hx109 U37 Z2<|Jg R (Jc2 I2 R R<|hvC ((f144.stp<|S148.tr<|S151.tr<|S155.tr<|S159.tr<|S162.tr<|S176.tr<|S184.tr<|S192.tr<|S195.tr<|S199.tr<|S203.tr<|S210.tr<|S224.tr<|S234.tr<|S237.tr<|S239.tr<|S256.tr S259).rdc.gInt hx109) R)<|Jn 1 R<|Jt1<|Jd<|Jg3 [2,2,1,2] 2 R<|Ob h λx113 hx113 h=>Jr3 R C49 (gK (κ:=Mk K255) (Ji3 f262.rdc) hx113) ?_
 rintro _ w267 ⟨k268,rfl,e269⟩
 obtain⟨K270,S271,m272⟩:=Ji e269 40 R
 refine Tv<|Jb 1 R<|Jq<|Je3 R<|Ob h λq7 h hK274=>Jo3 [2,4,6,10,11,12,13,15,16,17,18,19,20,22,81,82] (λE L w'=>∃κ' aA az,L=(14,.slice aA q7.1.length az)::(23,vi q7.2)::E/\Stp [28] K270 w267 κ' w'/\Oc E6 2 κ' w' 28 aA az q7.1) ?_ ?_
 revert h
 cases ht279:decide (x113<0)
 refine JF λh=>Jy R<|Js ?_
 cases h
 exact Jw1 _ ⟨K270,ad,ak,R,Jj3,(f262.stp S271)⟩<|KM R
 refine JT λh=>Jx R<|Jg3 [2,2,2] 1 R<|Jn3 R U37 R R<|Jb 1 R<|Jh3 [2,2,1,1,2] 2 R<|Jw3 (κ:=K270) (E:=E6) 42 [] (parts:=[(0,.tmp 119)]) (cells:=[vi x109]) (xs:=([x109]:List Int)) R Y37 bG R ⟨[vi x109],[],Zl K270 w267 [],Zl K270 w267 [],R,Zl.sp (l1:=[]) (l2:=[]) R,Zl.sr (l1:=[]) (l2:=[]),R,R⟩ λbj bw w280 K281 S282 f283=>Tv<|Ob h λx121 hx121 h=>Jy3 (κ:=K281) (E:=E6) 28 [] R Y37 bG R (f262.stp<|S271.tr S282) (Sl.srcP (bP _) f283.rdc) bI hx121 R λbf bc w285 K286 S287 f288=>Tv<|Jc 1 R ?_
 cases h
 exact Jw1 _ ⟨K286,bf,bc,R,(S282.tr S287).wk R,f288⟩<|KM R
 rintro _ w275 ⟨K276,aA,az,rfl,S277,f278⟩
 have h:=hK274
 have S003:=(T4 S256 S259 S271 S277)
 refine Jp<|Jg3 [2,2,1,1,2] 2 R<|Jw3 (κ:=K276) (E:=E6) 42 [] (parts:=[(0,.tmp 123)]) (cells:=[vi q7.2]) (xs:=([q7.2]:List Int)) R Y37 bG R ⟨[vi q7.2],[],Zl K276 w275 [],Zl K276 w275 [],R,Zl.sp (l1:=[]) (l2:=[]) R,Zl.sr (l1:=[]) (l2:=[]),R,R⟩ λbl bu w290 K291 S292 f293=>Tv<|Ob h λx125 hx125 h=>Jy3 (κ:=K291) (E:=E6) 33 [] R Y37 bG R (f226.stp<|T8 S234 S237 S239 S256 S259 S271 S277 S292) (Sl.srcP (bP _) f293.rdc) bI hx125 R λaI aR w295 K296 S297 f298=>Tv<|Jb 1 R<|Js1 (κ:=K296) [0,2,8,20,22,32,37] none [(0,2),(6,2),(1,0),(2,0),(3,0),(4,0),(5,0),(7,2),(8,2),(9,0),(10,1),(11,2),(12,1),(13,1),(14,1),(15,2)] [] (by kernel_rfl) (by kernel_rfl) λw300 S299=>Jn 2 R<|Jg R (Jc4 (haC (f250.stp<|T4 S003 S292 S297 S299).cells R) I28 Z28 R)<|Jg R (Jc4 (haC (f145.stp<|S148.tr<|S151.tr<|S155.tr<|S159.tr<|S162.tr<|S176.tr<|S184.tr<|S192.tr<|S195.tr<|S199.tr<|S203.tr<|S210.tr<|S224.tr<|S234.tr<|S237.tr<|S239.tr<|S256.tr<|S259.tr<|S271.tr<|S277.tr<|S292.tr<|S297.tr S299).cells R) I71 Z71 R)<|Jg R (Jc2 I2 R R<|hvC ((f249.stp<|T4 S003 S292 S297 S299).ld 0 R R) R)<|Jg R (Jc2 I2 R R<|hvC ((f251.stp<|T4 S003 S292 S297 S299).ld 0 R R) R)<|Jg R (Jc2 I80 R R<|hvC ((f247.stp<|T4 S003 S292 S297 S299).ld 0 R R) R)<|Ob h λx133 hx133 h=>Jc3 R f246.rdc hx133 U80 Z88<|Jd3 R U88 R Z2 ?_
 obtain⟨cse307,hre307,hle307⟩:=Ow.gZS (f246.stp (T7 S256 S259 S271 S277 S292 S297 S299)) hx133
 obtain⟨ae307_0,ue307_0,rfl,fe307_0⟩:=Place.un hre307
 have S004:=(S45.tr (S53.tr (S56.tr (S60.tr (S65.tr (S70.tr (S83.tr (S92.tr (S96.tr (S100.tr (S104.tr (S123.tr (S140.tr (S148.tr (S151.tr (S155.tr (S159.tr (S162.tr (S176.tr (S184.tr (S192.tr (S195.tr (S199.tr (S203.tr (S210.tr (S224.tr (S234.tr (S237.tr (S239.tr (S256.tr (S259.tr (S271.tr (S277.tr (S292.tr (S297.tr S299)))))))))))))))))))))))))))))))))))
 refine Jg R (Jc2 I2 R R<|hvC (λw' hw'=>hle307 w' hw' 0 _ R) R)<|Ob h λx136 hx136 h=>Jr3 R C50 (pK (κ:=Mk K296) (p0:=p0) (p1:=x27.1) (Ji3 (f36.stp S004).rdc) (Ji3 (f37.stp S004).rdc) hx136) ?_
 rintro _ w310 ⟨k311,bB,bs,rfl,e312,f313⟩
 obtain⟨K314,S315,m316⟩:=Ji e312 43 R
 refine⟨(S315.cl R),?_⟩
 have f318:=f313.mx (bL _) m316 R (R:43+2=45)
 refine Ob h λx137 hx137 h=>Jc3 R f318.rdc hx137 U37 Z2<|Jb4 (S315.cl R) R (Jc2 I2 R R<|hvE<|f318.rdc.gInt hx137)<|Jw3 (κ:=K314) (E:=E6) 46 [] (parts:=[(0,.tmp 138)]) (cells:=[vi x137]) (xs:=([x137]:List Int)) R Y37 bG R ⟨[vi x137],[],Zl K314 w310 [],Zl K314 w310 [],R,Zl.sp (l1:=[]) (l2:=[]) R,Zl.sr (l1:=[]) (l2:=[]),R,R⟩ λbp bm w319 K320 S321 f322=>⟨((S315.tr S321).cl R),Ob h λx140 hx140 h=>Jy3 (κ:=K320) (E:=E6) 34 [] R Y37 bG R (f227.stp<|T12 S234 S237 S239 S256 S259 S271 S277 S292 S297 S299 S315 S321) (Sl.srcP (bP _) f322.rdc) bI hx140 R λbd aP w324 K325 S326 f327=>⟨((T3 S315 S321 S326).cl R),Jn 1 R<|Jt1<|Jo<|Jz<|Jp<|Jf3 R ?_⟩⟩
 have hw213:yC .i64 (v82+1)=v82+1:=wr1 hj213 (Jm2 hc213) hN213
 rw[hw213]
 have hc213:=Jm2 hc213
 cases h
 exact Jz1 λa ha=>⟨k,_,Ja3 _,⟨K325,v82+1,(q7.1,x125,x140),aA,az,aI,aR,bd,aP,R,(T14 S224 S234 S237 S239 S256 S259 S271 S277 S292 S297 S299 S315 S321 S326).wk R,(f278.stp<|T6 S292 S297 S299 S315 S321 S326),(f298.stp<|T4 S299 S315 S321 S326),f327,by omega,by omega,hk231⟩,(ha.mm R)⟩
 rintro _ w216 ⟨K217,s6,au,av,ah,am,an,aj,rfl,S218,f219,f220,f221,rfl⟩
 have h:=yI hK214
 refine Jp<|Je [2,1,2,1,1,2,1] R<|Jd3 R U33 R Z31 ?_
 have f330:=f180.stp (T7 S184 S192 S195 S199 S203 S210 S218)
 have S005:=(T7 S184 S192 S195 S199 S203 S210 S218)
 refine Jb3 R I31 (f330.ld 0 R R)<|Jn 1 R<|Jw3 (κ:=K217) (E:=(Ep.own E6 2)) 37 [33] (parts:=[(0,.tmp 144)]) (cells:=[.slice ah s6.2.1.length am]) (xs:=([s6.2.1]:List (List Int))) R Y31 bQ R ⟨[.slice ah s6.2.1.length am],[],Zl K217 w216 [33],Zl K217 w216 [],R,Zl.sp (l1:=[33]) (l2:=[]) R,Zl.sr (l1:=[33]) (l2:=[]),⟨_,_,R,f220⟩,R⟩ λbq bt w331 K332 S333 f334=>Tv<|Ob h λx146 hx146 h=>Jy3 (κ:=K332) (E:=(Ep.own E6 2)) 30 [37] R Y31 bQ R (f178.stp<|S005.tr S333) f334.src (dE R) hx146 R λaq aB w336 K337 S338 f339=>Tv<|Jd3 R U33 R Z31<|Ju3 (κ:=K337) 29 (off:=0) (vc:=[.slice aq x146.length aB]) (cs':=[.slice aq x146.length aB,.slice ae s1.2.2.2.length af]) R Z31 R (f330.stp<|S333.tr S338) R λw341 S342 f343=>Tv<|Jd<|Ja [2,1,2,1,1,2,1] R<|Jd3 R U33 R Z31<|Jb3 R I31 (f343.ld 1 R R)<|Jn 1 R<|Jw3 (κ:=K337) (E:=(Ep.own E6 2)) 38 [34] (parts:=[(0,.tmp 150)]) (cells:=[.slice an s6.2.2.length aj]) (xs:=([s6.2.2]:List (List Int))) R Y31 bQ R ⟨[.slice an s6.2.2.length aj],[],Zl K337 w341 [34],Zl K337 w341 [],R,Zl.sp (l1:=[34]) (l2:=[]) R,Zl.sr (l1:=[34]) (l2:=[]),⟨_,_,R,(f221.stp<|T3 S333 S338 S342)⟩,R⟩ λbC bv w345 K346 S347 f348=>Tv<|Ob h λx152 hx152 h=>Jy3 (κ:=K346) (E:=(Ep.own E6 2)) 31 [38] R Y31 bQ R (f179.stp<|T5 S005 S333 S338 S342 S347) f348.src (dE R) hx152 R λaF aD w350 K351 S352 f353=>Tv<|Jd3 R U33 R Z31<|Ju3 (κ:=K351) 29 (off:=1) (vc:=[.slice aF x152.length aD]) (cs':=[.slice aq x146.length aB,.slice aF x152.length aD]) R Z31 R (f343.stp<|S347.tr S352) R λw355 S356 f357=>Tv<|Jo<|Jz<|Jp<|Jf3 R ?_
 cases h
 exact Jz1 λa ha=>⟨k,_,Ja3 _,⟨K351,(s6.1,((IntKind.i64.wrap<|s1.2.1+1):Int),x146,x152),au,av,aq,aB,aF,aD,R,(T14 S176 S184 S192 S195 S199 S203 S210 S218 S333 S338 S342 S347 S352 S356).wk R,(f219.stp<|T6 S333 S338 S342 S347 S352 S356),(f339.stp<|T4 S342 S347 S352 S356),(f353.stp S356),f357,hk182⟩,(ha.mm R)⟩
 rintro _ w167 ⟨K168,s3,aG,aE,al,ai,ac,ao,rfl,S169,f170,f171,f172,f173,rfl⟩
 have h:=yI hK165
 refine Jp<|Jq<|Jg3 [2,2,2] 1 R<|Jn3 R U37 R R<|Jb 1 R ?_
 revert h
 cases ht361:decide (48<(s3.1.length:Int))
 refine JF λh=>Jy R<|Js<|Jp<|Je [1,1,2] R<|Jb4 tv R (Jc4 (haE f173.cells) I33 Z33 R)<|Jv3 (κ:=K168) 3 (vc:=[.slice al s3.2.2.1.length ai,.slice ac s3.2.2.2.length ao]) R Z33 R (f8.stp<|S17.tr<|S24.tr<|S27.tr<|S45.tr<|S53.tr<|S56.tr<|S60.tr<|S65.tr<|S70.tr<|S83.tr<|S92.tr<|S96.tr<|S100.tr<|S104.tr<|S123.tr<|S140.tr<|S148.tr<|S151.tr<|S155.tr<|S159.tr<|S162.tr S169) R λw368 S369 f370=>Tv<|Jb 1 R<|Ju<|Ja2 (l:=[.cell 4 33,.tmp 5]) V11 (bM R f370 I33 Z33 R<|Jp2 R R) R ?_
 cases h
 exact⟨(λb=>ren [(30,2),(31,3)]<|K168 b),al,ai,ac,ao,R,((hE.stp<|S3.tr<|S7.tr<|S17.tr<|S24.tr<|S27.tr<|S45.tr<|S53.tr<|S56.tr<|S60.tr<|S65.tr<|S70.tr<|S83.tr<|S92.tr<|S96.tr<|S100.tr<|S104.tr<|S123.tr<|S140.tr<|S148.tr<|S151.tr<|S155.tr<|S159.tr<|S162.tr<|S169.tr S369).map (ren [(30,2),(31,3)]) R R),((f171.stp S369).map (ren [(30,2),(31,3)]) R R),((f172.stp S369).map (ren [(30,2),(31,3)]) R R)⟩
 refine JT λh=>Jx R<|Je [2,1,2] R<|Jf R (bK (parts:=[]) (cells:=[.slice none 0 0,.slice none 0 0]) R R (by kernel_rfl))<|Jv3 (κ:=K168) 3 (vc:=[.slice none 0 0,.slice none 0 0]) R Z33 R (f8.stp<|S17.tr<|S24.tr<|S27.tr<|S45.tr<|S53.tr<|S56.tr<|S60.tr<|S65.tr<|S70.tr<|S83.tr<|S92.tr<|S96.tr<|S100.tr<|S104.tr<|S123.tr<|S140.tr<|S148.tr<|S151.tr<|S155.tr<|S159.tr<|S162.tr S169) R λw363 S364 f365=>Tv<|Jb 1 R<|Ju<|Jw<|Ja2 (l:=[.cell 4 33,.tmp 5]) V11 (bM R f365 I33 Z33 R<|Jp2 R R) R ?_
 cases h
 exact⟨K168,none,0,none,0,R,(hE.stp<|S3.tr<|S7.tr<|S17.tr<|S24.tr<|S27.tr<|S45.tr<|S53.tr<|S56.tr<|S60.tr<|S65.tr<|S70.tr<|S83.tr<|S92.tr<|S96.tr<|S100.tr<|S104.tr<|S123.tr<|S140.tr<|S148.tr<|S151.tr<|S155.tr<|S159.tr<|S162.tr<|S169.tr S364),Ow.nil,Ow.nil⟩
 refine JT λh=>Jx R<|Je [2,1,2] R<|Jf R (bK (parts:=[]) (cells:=[.slice none 0 0,.slice none 0 0]) R R (by kernel_rfl))<|Jv3 (κ:=K122) 3 (vc:=[.slice none 0 0,.slice none 0 0]) R Z33 R (f8.stp<|T15 S17 S24 S27 S45 S53 S56 S60 S65 S70 S83 S92 S96 S100 S104 S123) R λw126 S127 f128=>Tv<|Jb 1 R<|Ju<|Jw<|Ja2 (l:=[.cell 4 33,.tmp 5]) V11 (bM R f128 I33 Z33 R<|Jp2 R R) R ?_
 cases h
 exact⟨K122,none,0,none,0,R,(hE.stp<|S3.tr<|S7.tr<|S17.tr<|S24.tr<|S27.tr<|S45.tr<|S53.tr<|S56.tr<|S60.tr<|S65.tr<|S70.tr<|S83.tr<|S92.tr<|S96.tr<|S100.tr<|S104.tr<|S123.tr S127),Ow.nil,Ow.nil⟩
 refine JT λh=>Jx R<|Je [2,1,2] R<|Jf R (bK (parts:=[]) (cells:=[.slice none 0 0,.slice none 0 0]) R R (by kernel_rfl))<|Jv3 (κ:=K23) 3 (vc:=[.slice none 0 0,.slice none 0 0]) R Z33 R (f8.stp<|T3 S17 S24 S27) R λw31 S32 f33=>Tv<|Jb 1 R<|Ju<|Jw<|Ja2 (l:=[.cell 4 33,.tmp 5]) V11 (bM R f33 I33 Z33 R<|Jp2 R R) R ?_
 cases h
 exact⟨K23,none,0,none,0,R,(hE.stp<|T6 S3 S7 S17 S24 S27 S32),Ow.nil,Ow.nil⟩
theorem jK {p0:Sig}{ab aj aa ae}{p1:Det}{al af ai ad}{p2:Det}(g1_0:Rd (Rp.sl (Rp.int .i64)) κ w 0 ab aj p1.Next) (g1_1:Rd Pair.rp κ w 0 aa ae p1.Pairs) (g2_0:Rd (Rp.sl (Rp.int .i64)) κ w 0 al af p2.Next) (g2_1:Rd Pair.rp κ w 0 ai ad p2.Pairs){r:Det×Bool}(h:i7 p0 p1 p2=some r):Ret Tryz.prog 121 [.agg #[vi p0.In,vi p0.Out],.agg #[.slice ab p1.Next.length aj,.slice aa p1.Pairs.length ae],.agg #[.slice al p2.Next.length af,.slice ai p2.Pairs.length ad]] w (λv w'=>∃(κ':Col) (ra0:Option Addr) (ru0:Nat) (ra1:Option Addr) (ru1:Nat),v= .tuple #[.agg #[.slice ra0 r.1.Next.length ru0,.slice ra1 r.1.Pairs.length ru1],.bool r.2]/\Ent κ w κ' w'/\Oc (Ep.own E6 2) 37 κ' w' 2 ra0 ru0 r.1.Next/\Oc Pair.ep127 127 κ' w' 3 ra1 ru1 r.1.Pairs):=by
 unfold i7 at h
 refine Jk3 κ F121 R N121 R λhE=>Je [1,1,1,1,2] R<|Js3 (κ:=κ) 2 R λb3 w1 K2 S3 f4=>Tv<|Js3 (κ:=K2) 3 R λb4 w5 K6 S7 f8=>Tv<|Js3 (κ:=K6) 4 R λb5 w9 K10 S11 f12=>Tv<|Jt3 (κ:=K10) 5 R X71 R λb6 w13 K14 S15 f16=>Tv<|Jb 1 R<|Jq<|Je [1,1,1,2,2,1,1,1,2,2,2,2,1,2,2,1,2,2,2,2] R ?_
 have f17:=f4.stp (T3 S7 S11 S15)
 refine Jb4 tv R (Jc4 (haE f17.cells) I28 Z28 R) ?_
 have f18:=f8.stp (S11.tr S15)
 refine Jb4 tv R (Jc4 (haE f18.cells) I71 Z71 R)<|Ob h λx10 hx10 h=>?_
 have f19:=g1_0.stp (T4 S3 S7 S11 S15)
 have f20:=g1_1.stp (T4 S3 S7 S11 S15)
 refine Jr3 R C123 (lJ (κ:=Mk K14) (p0:=p0) (p1:=p1) (Ji3 f19) (Ji3 f20) hx10) ?_
 rintro _ w21 ⟨k22,rfl,e23⟩
 obtain⟨K24,S25,m26⟩:=Ji e23 6 R
 refine Tv<|Jn 2 R<|Ob h λp17 h hK28=>Jq3 [3,4,5,6] (λE L w'=>L=(17,.bool p17)::E/\∃κ',Stp [] K24 w21 κ' w') [(5,1),(6,1),(7,1),(8,2),(9,2)] [(10,2),(11,2),(12,1),(13,2),(14,2),(15,1),(16,2),(17,2),(18,2),(19,2)] tv ?_ ?_
 revert h
 cases ht29:(!x10)
 have S001:=(T5 S3 S7 S11 S15 S25)
 refine JF λh=>Jb4 tv R (Jc4 (haE (f17.stp S25).cells) I28 Z28 R)<|Jb4 tv R (Jc4 (haE (f12.stp<|S15.tr S25).cells) I71 Z71 R)<|Ob h λx15 hx15 h=>Jr3 R C123 (lJ (κ:=Mk K24) (p0:=p0) (p1:=p2) (Ji3<|g2_0.stp S001) (Ji3<|g2_1.stp S001) hx15) ?_
 rintro _ w34 ⟨k35,rfl,e36⟩
 obtain⟨K37,S38,m39⟩:=Ji e36 8 R
 refine Tv<|Jn 2 R ?_
 cases h
 exact Jv1 _ tv ⟨R,_,S38.wk R⟩<|KM R
 refine JT λh=>Jz3 R<|Jz3 R<|Jz3 R<|Jn 2 R ?_
 cases h
 exact Jv1 _ tv ⟨R,_,Jj3⟩<|KM R
 rintro _ w41 _ ⟨rfl,K42,S43⟩
 have h:=hK28
 refine Jn 1 R<|Ob h λp27 h hK44=>Jq3 [3,4,5,6] (λE L w'=>L=(27,.bool p27)::E/\∃κ',Stp [] K42 w41 κ' w') [(11,2),(12,1),(13,2),(14,2),(15,1),(16,2),(17,2),(18,2),(19,2)] [] tv ?_ ?_
 revert h
 cases ht45:p17
 refine JF λh=>Jd3 R U71 R Z69<|Jb3 R I69 ((f18.stp<|S25.tr S43).ld 1 R R)<|Jn3 R U69 R R<|Jd3 R U71 R Z69<|Jb3 R I69 ((f12.stp<|T3 S15 S25 S43).ld 1 R R)<|Jn3 R U69 R R<|Jn 3 R ?_
 cases h
 exact Jv1 _ tv ⟨R,_,Jj3⟩<|KM R
 refine JT λh=>Jn 1 R<|Jz3 R<|Jn 2 R<|Jz3 R<|Jn 4 R ?_
 cases h
 exact Jv1 _ tv ⟨R,_,Jj3⟩<|KM R
 rintro _ w48 _ ⟨rfl,K49,S50⟩
 have h:=hK44
 refine Jd ?_
 revert h
 cases ht51:p27
 refine JF λh=>Jy R<|Js<|Jp<|Jq<|Js1 (κ:=K49) [2,3,4] none [(0,0),(1,0),(2,0),(3,1),(4,1),(5,2),(6,2),(7,1),(8,2)] [] (by kernel_rfl) (by kernel_rfl) λw58 S57=>Jg R (Jc4 (haC (f18.stp<|T4 S25 S43 S50 S57).cells R) I71 Z71 R)<|Jg R (Jc4 (haC (f12.stp<|T5 S15 S25 S43 S50 S57).cells R) I71 Z71 R)<|Jg R (Jc4 (haC (f17.stp<|T4 S25 S43 S50 S57).cells R) I28 Z28 R)<|Ob h λx32 hx32 h=>Jr3 R C120 (eu (κ:=Mk K49) (p0:=p0) hx32) ?_
 rintro _ w62 ⟨k63,rfl,e64⟩
 obtain⟨K65,S66,m67⟩:=Ji e64 8 R
 have S002:=(T9 S3 S7 S11 S15 S25 S43 S50 S57 S66)
 have S003:=(T5 S25 S43 S50 S57 S66)
 refine⟨(S66.cl R),Ob h λx33 hx33 h=>Jr3 R C186 (pU (κ:=Mk K65) (p0:=p1) (p1:=p2) (Ji3<|f19.stp S003) (Ji3<|f20.stp S003) (Ji3<|g2_0.stp S002) (Ji3<|g2_1.stp S002) hx33) ?_⟩
 rintro _ w73 ⟨k74,ac,am,ak,ah,rfl,e75,f76,f77⟩
 obtain⟨K78,S79,m80⟩:=Ji e75 10 R
 refine⟨((S66.tr S79).cl R),Jn 2 R<|Jv3 (κ:=K78) 5 (vc:=[.slice ac x33.1.Next.length am,.slice ak x33.1.Pairs.length ah]) R Z71 R (f16.stp<|T6 S25 S43 S50 S57 S66 S79) R λw85 S86 f87=>⟨((T3 S66 S79 S86).cl R),Jn 1 R<|Jt1<|Jd<|Ju<|Ja2 (l:=[.cell 6 71,.tmp 7]) V121 (bM R f87 I71 Z71 R<|Jp2 R R) R ?_⟩⟩
 cases h
 exact⟨(λb=>ren [(12,2),(13,3)]<|K78 b),ac,am,ak,ah,R,((hE.stp<|T11 S3 S7 S11 S15 S25 S43 S50 S57 S66 S79 S86).map (ren [(12,2),(13,3)]) R R),(((f76.mx (cR (bL _) _) m80 R (R:10+2=12)).stp S86).map (ren [(12,2),(13,3)]) R R),(((f77.mx Pair.no127 m80 R (R:10+3=13)).stp S86).map (ren [(12,2),(13,3)]) R R)⟩
 refine JT λh=>Jx R<|Je [2,1,2] R<|Jf R (bK (parts:=[]) (cells:=[.slice none 0 0,.slice none 0 0]) R R (by kernel_rfl))<|Jv3 (κ:=K49) 5 (vc:=[.slice none 0 0,.slice none 0 0]) R Z71 R (f16.stp<|T3 S25 S43 S50) R λw53 S54 f55=>Tv<|Jb 1 R<|Ju<|Jw<|Ja2 (l:=[.cell 6 71,.tmp 7]) V121 (bM R f55 I71 Z71 R<|Jp2 R R) R ?_
 cases h
 exact⟨K49,none,0,none,0,R,(hE.stp<|T8 S3 S7 S11 S15 S25 S43 S50 S54),Ow.nil,Ow.nil⟩
theorem pV {p0:Sig}{a1 u1}{p1:(List Clause)}(g1:Rd Clause.rp κ w 0 a1 u1 p1){r:Det×Bool}(h:cZ p0 p1=some r):Ret Tryz.prog 51 [.agg #[vi p0.In,vi p0.Out],.slice a1 p1.length u1] w (λv w'=>∃(κ':Col) (ra0:Option Addr) (ru0:Nat) (ra1:Option Addr) (ru1:Nat),v= .tuple #[.agg #[.slice ra0 r.1.Next.length ru0,.slice ra1 r.1.Pairs.length ru1],.bool r.2]/\Ent κ w κ' w'/\Oc (Ep.own E6 2) 37 κ' w' 2 ra0 ru0 r.1.Next/\Oc Pair.ep127 127 κ' w' 3 ra1 ru1 r.1.Pairs):=by
 unfold cZ at h
 refine Jk3 κ F51 R N51 R λhE=>Je [1,1,2] R<|Js3 (κ:=κ) 2 R λb2 w1 K2 S3 f4=>Tv<|Jt3 (κ:=K2) 3 R X71 R λb4 w5 K6 S7 f8=>Tv<|Jb 1 R<|Jq<|Je [1,2,1,2] R ?_
 have f9:=f4.stp S7
 refine Jb4 tv R (Jc4 (haE f9.cells) I28 Z28 R)<|Jn 1 R<|Ob h λx12 hx12 h=>?_
 have f10:=g1.stp (S3.tr S7)
 refine Jr3 R C75 (lZ (κ:=Mk K6) (p0:=p0) (Ji3 f10) hx12) ?_
 rintro _ w11 ⟨k12,rfl,e13⟩
 obtain⟨K14,S15,m16⟩:=Ji e13 4 R
 refine Tv<|Jb 1 R ?_
 revert h
 cases ht18:(!x12)
 refine JF λh=>Jy R<|Js<|Jp<|Je [1,1,1,1,2,1,1] R ?_
 have f24:=f9.stp S15
 refine Jb4 tv R (Jc4 (haE f24.cells) I28 Z28 R)<|Ob h λx16 hx16 h=>Jr3 R C120 (eu (κ:=Mk K14) (p0:=p0) hx16) ?_
 rintro _ w25 ⟨k26,rfl,e27⟩
 obtain⟨K28,S29,m30⟩:=Ji e27 6 R
 refine Tv<|Ob h λx17 hx17 h=>Jl1 (κ:=K28) (E:=E6) (z:=(0:Int)) 8 R R R R R R R Y37 bG R R R R R (λ_ _ _=>R) (Ju2 hx17) λaw av w32 K33 S34 f35=>Tv<|Jw3 (κ:=K33) (E:=(Ep.own E6 2)) 9 [8] (parts:=[(0,.tmp 17)]) (cells:=[.slice aw x17.length av]) (xs:=([x17]:List (List Int))) R Y31 bQ R ⟨[.slice aw x17.length av],[],Zl K33 w32 [8],Zl K33 w32 [],R,Zl.sp (l1:=[8]) (l2:=[]) R,Zl.sr (l1:=[8]) (l2:=[]),⟨_,_,R,f35⟩,R⟩ λar au w36 K37 S38 f39=>Tv<|Jf R (bK (parts:=[(0,.tmp 18)]) (cells:=[.slice ar ([x17]:List (List Int)).length au,.slice none 0 0]) R R (by kernel_rfl))<|Jt3 (κ:=K37) 10 R X71 R λb6 w40 K41 S42 f43=>Tv<|Jv3 (κ:=K41) 10 (vc:=[.slice ar ([x17]:List (List Int)).length au,.slice none 0 0]) R Z71 R f43 R λw44 S45 f46=>Tv<|Jd<|Jq<|Je3 R ?_
 have hN47:(p1.length:Int)<=9223372036854775807:=f10.len_le
 refine Ob h λq2 hq49 hK48=>?_
 clear h
 refine Jo3 [4,6] (λE L w'=>∃κ',∃s3:(List<|List Int)×(List Pair),∃ai aj ah ak,L=E/\Stp [10,12,13,16,18,19,20] K41 w44 κ' w'/\Oc (Ep.own E6 2) 37 κ' w' 9 ai aj s3.1/\Oc Pair.ep127 127 κ' w' 11 ah ak s3.2/\Bc κ' w' 10 b6 71 [.slice ai s3.1.length aj,.slice ah s3.2.length ak]/\q2=yD s3) ?_ ?_
 refine Jv<|Jp3 [1,2,4,6] (λk E L w'=>∃κ' v7,∃s1:(List<|List Int)×(List Pair),∃ao an ap aq,L=(7,vi v7)::E/\Stp [10,12,13,16,18,19,20] K41 w44 κ' w'/\Oc (Ep.own E6 2) 37 κ' w' 9 ao an s1.1/\Oc Pair.ep127 127 κ' w' 11 ap aq s1.2/\Bc κ' w' 10 b6 71 [.slice ao s1.1.length an,.slice ap s1.2.length aq]/\0<=v7/\yG ((p1.length:Int)-v7)=k/\cntM (ez p0 p1) k v7 s1=some q2) ⟨_,_,⟨K41,0,((([x17]:List (List Int)):(List<|List Int)),(([]:List Pair):(List Pair))),ar,au,none,0,R,Jj3,(f39.stp<|S42.tr S45),Ow.nil,f46,(by decide),(by simp),hq49⟩,(KM R)⟩ ?_
 rintro k _ w56 ⟨K57,v7,s1,ao,an,ap,aq,rfl,S58,f59,f60,f61,hj47,hJ47,h⟩
 rcases k with _ | k
 have hk63:=h;obtain⟨o47,h⟩:=bT (yD (yE s1):(Det×Bool)⊕(((List (List Int))×(List Pair))⊕((List (List Int))×(List Pair))))
 have hc47:decide (v7<(p1.length:Int))=false:=Jo2 (by omega)
 refine Jq<|Jg3 [2,2,2,2] 2 R<|Jn3 R U29 R R<|Jb 1 R<|Jw2 R hc47<|Jc1<|Jt<|Jt ?_
 cases h
 have h:=hk63
 refine Jb1 ?_
 cases h
 exact Jw1 _ ⟨K57,(s1.1,s1.2),ao,an,ap,aq,R,S58.wk R,f59,f60,f61,R⟩<|KM R
 obtain⟨o47,h,hk63⟩:=BI h;unfold ez at h
 have hc47:decide (v7<(p1.length:Int))=true:=Jn2 (by omega)
 refine Jq<|Jg3 [2,2,2,2] 2 R<|Jn3 R U29 R R<|Jb 1 R<|Jv2 R hc47<|Js<|Jp<|Jq<|Jv<|Jq<|Ob h λx32 hx32 h=>Ob h λx34 hx34 h=>Ob h λx35 hx35 h=>Jo3 [1,2,4,6,7] (λE L w'=>∃κ' b8 af am al ae,L=(8,.pointer (some ⟨b8,0,none⟩))::(9,.bool x35.2)::E/\Stp [12,16,18,19,20] K57 w56 κ' w'/\Oc (Ep.own E6 2) 37 κ' w' 12 af am x35.1.Next/\Oc Pair.ep127 127 κ' w' 13 al ae x35.1.Pairs/\Bc κ' w' 14 b8 71 [.slice af x35.1.Next.length am,.slice al x35.1.Pairs.length ae]) ?_ ?_
 refine WC.rxt (κ:=K57) [0,2,10] none (by kernel_rfl) λw71 S72=>Jq1 (fuel:=8) [(3,2),(4,2),(5,2),(0,0),(1,0),(2,0),(6,0)] (by kernel_rfl) (by kernel_rfl) R<|Jn 2 R<|Jc3 R f10 hx32 U29 Z67 ?_
 have f73:=f24.stp (T7 S29 S34 S38 S42 S45 S58 S72)
 refine Jg R (Jc4 (haC f73.cells R) I28 Z28 R)<|Jg R (Jc4 (haC (f61.stp S72).cells R) I71 Z71 R)<|Jg R (Jc4 (haC f73.cells R) I28 Z28 R) ?_
 obtain⟨cse76,hre76,hle76⟩:=((f10.stp (T8 S15 S29 S34 S38 S42 S45 S58 S72))).gSt hx32
 obtain⟨ae76_0,ue76_0,ae76_1,ue76_1,rfl,fe76_0,fe76_1⟩:=Clause.un hre76
 refine Jg R (Jc4 (haC hle76 R) I67 Z67 R)<|Jp1<|WA.fork2 (fuel:=7) 7 12 (by kernel_rfl) R ?_ ?_
 refine Jr3 R C122 (mn (κ:=Mk K57) (p0:=p0) (p1:=x32) (Ji3 fe76_0) (Ji3 fe76_1) hx34) ?_
 rintro _ w77 ⟨k78,aA,az,ax,ay,rfl,e79,f80,f81⟩
 obtain⟨K82,S83,m84⟩:=Ji e79 12 R
 refine⟨(S83.cl R),?_⟩
 have f86:=f80.mx (cR (bL _) _) m84 R (R:12+2=14)
 have f87:=f81.mx Pair.no127 m84 R (R:12+3=15)
 refine Jp1<|WA.fork2 (fuel:=6) 8 12 (by kernel_rfl) R ?_ ?_
 refine Jr3 R C121 (jK (κ:=Mk K82) (p0:=p0) (p1:=(⟨s1.1,s1.2⟩:Det)) (p2:=x34) (Ji3 (f59.stp<|S72.tr S83).rdc) (Ji3 (f60.stp<|S72.tr S83).rdc) (Ji3 f86.rdc) (Ji3 f87.rdc) hx35) ?_
 rintro _ w90 ⟨k91,aa,ab,ac,ad,rfl,e92,f93,f94⟩
 obtain⟨K95,S96,m97⟩:=Ji e92 16 R
 exact⟨((S83.tr S96).cl R),Jp1<|Jq1 (fuel:=0) [(9,2),(10,2),(11,2),(12,1),(13,1),(14,2)] (by kernel_rfl) (by kernel_rfl) R<|Jn 3 R<|Jt3 (κ:=K95) 20 R X71 R λb8 w101 K102 S103 f104=>⟨((T3 S83 S96 S103).cl R),Jv3 (κ:=K102) 20 (vc:=[.slice aa x35.1.Next.length ab,.slice ac x35.1.Pairs.length ad]) R Z71 R f104 R λw105 S106 f107=>⟨((T4 S83 S96 S103 S106).cl R),Jn 1 R<|Jp1<|Jr1 [] (by kernel_rfl) (by kernel_rfl) R<|Jo<|Jw1 _ ⟨(λb=>ren [(18,12),(19,13),(20,14)]<|K102 b),b8,aa,ab,ac,ad,R,(Jy2 ((T5 S72 S83 S96 S103 S106).wk R) [(18,12),(19,13),(20,14)] R),(((f93.mx (cR (bL _) _) m97 R (R:16+2=18)).stp (S103.tr S106)).map (ren [(18,12),(19,13),(20,14)]) R R),(((f94.mx Pair.no127 m97 R (R:16+3=19)).stp (S103.tr S106)).map (ren [(18,12),(19,13),(20,14)]) R R),(f107.map (ren [(18,12),(19,13),(20,14)]) R R)⟩<|KM R⟩⟩⟩
 refine Jt3 (κ:=K82) 16 R X71 R λb8 w110 K111 S112 f113=>⟨((S83.tr S112).cl R),Jp1<|Jq1 (fuel:=0) [(8,1),(9,2),(10,2),(11,2),(13,1),(14,2)] (by kernel_rfl) (by kernel_rfl) R<|Jr3 R C121 (jK (κ:=Mk K111) (p0:=p0) (p1:=(⟨s1.1,s1.2⟩:Det)) (p2:=x34) (Ji3 (f59.stp<|T3 S72 S83 S112).rdc) (Ji3 (f60.stp<|T3 S72 S83 S112).rdc) (Ji3 (f86.stp S112).rdc) (Ji3 (f87.stp S112).rdc) hx35) ?_⟩
 rintro _ w118 ⟨k119,aa,ab,ac,ad,rfl,e120,f121,f122⟩
 obtain⟨K123,S124,m125⟩:=Ji e120 17 R
 exact⟨((T3 S83 S112 S124).cl R),Jn 3 R<|Jv3 (κ:=K123) 16 (vc:=[.slice aa x35.1.Next.length ab,.slice ac x35.1.Pairs.length ad]) R Z71 R (f113.stp S124) R λw130 S131 f132=>⟨((T4 S83 S112 S124 S131).cl R),Jn 1 R<|Jp1<|Jr1 [] (by kernel_rfl) (by kernel_rfl) R<|Jo<|Jw1 _ ⟨(λb=>ren [(19,12),(20,13),(16,14)]<|K123 b),b8,aa,ab,ac,ad,R,(Jy2 ((T5 S72 S83 S112 S124 S131).wk R) [(19,12),(20,13),(16,14)] R),(((f121.mx (cR (bL _) _) m125 R (R:17+2=19)).stp S131).map (ren [(19,12),(20,13),(16,14)]) R R),(((f122.mx Pair.no127 m125 R (R:17+3=20)).stp S131).map (ren [(19,12),(20,13),(16,14)]) R R),(f132.map (ren [(19,12),(20,13),(16,14)]) R R)⟩<|KM R⟩⟩
 refine Jt3 (κ:=K57) 12 R X71 R λb8 w135 K136 S137 f138=>⟨(S137.cl R),Jp1<|Jq1 (fuel:=0) [(7,1),(8,1),(9,2),(10,2),(11,2),(13,1),(14,2)] (by kernel_rfl) (by kernel_rfl) R<|Jr3 R C122 (mn (κ:=Mk K136) (p0:=p0) (p1:=x32) (Ji3<|fe76_0.stp S137) (Ji3<|fe76_1.stp S137) hx34) ?_⟩
 rintro _ w141 ⟨k142,aA,az,ax,ay,rfl,e143,f144,f145⟩
 obtain⟨K146,S147,m148⟩:=Ji e143 13 R
 refine⟨((S137.tr S147).cl R),Jr3 R C121 (jK (κ:=Mk K146) (p0:=p0) (p1:=(⟨s1.1,s1.2⟩:Det)) (p2:=x34) (Ji3 (f59.stp<|T3 S72 S137 S147).rdc) (Ji3 (f60.stp<|T3 S72 S137 S147).rdc) (Ji3 (f144.mx (cR (bL _) _) m148 R (R:13+2=15)).rdc) (Ji3 (f145.mx Pair.no127 m148 R (R:13+3=16)).rdc) hx35) ?_⟩
 rintro _ w154 ⟨k155,aa,ab,ac,ad,rfl,e156,f157,f158⟩
 obtain⟨K159,S160,m161⟩:=Ji e156 17 R
 have S001:=(T3 S137 S147 S160)
 exact⟨(S001.cl R),Jn 3 R<|Jv3 (κ:=K159) 12 (vc:=[.slice aa x35.1.Next.length ab,.slice ac x35.1.Pairs.length ad]) R Z71 R (f138.stp<|S147.tr S160) R λw166 S167 f168=>⟨((S001.tr S167).cl R),Jn 1 R<|Jp1<|Jr1 [] (by kernel_rfl) (by kernel_rfl) R<|Jo<|Jw1 _ ⟨(λb=>ren [(19,12),(20,13),(12,14)]<|K159 b),b8,aa,ab,ac,ad,R,(Jy2 ((T5 S72 S137 S147 S160 S167).wk R) [(19,12),(20,13),(12,14)] R),(((f157.mx (cR (bL _) _) m161 R (R:17+2=19)).stp S167).map (ren [(19,12),(20,13),(12,14)]) R R),(((f158.mx Pair.no127 m161 R (R:17+3=20)).stp S167).map (ren [(19,12),(20,13),(12,14)]) R R),(f168.map (ren [(19,12),(20,13),(12,14)]) R R)⟩<|KM R⟩⟩
 rintro _ w64 ⟨K65,b8,af,am,al,ae,rfl,S66,f68,f69,f70⟩
 refine Jp<|Jq<|Je3 R ?_
 revert h
 cases ht171:(!x35.2)
 refine JF λh=>Jy R<|Js<|Jp<|Ja [1,1] R<|Jb4 tv R (Jc4 (haE f70.cells) I71 Z71 R)<|Jv3 (κ:=K65) 10 (vc:=[.slice af x35.1.Next.length am,.slice al x35.1.Pairs.length ae]) R Z71 R (f61.stp S66) R λw178 S179 f180=>Tv<|Jo<|Jz<|Jp<|Jf3 R ?_
 have hw47:yC .i64 (v7+1)=v7+1:=wr1 hj47 (Jm2 hc47) hN47
 rw[hw47]
 have hc47:=Jm2 hc47
 cases h
 exact Jz1 λa ha=>⟨k,_,Ja3 _,⟨(λb=>ren [(12,9),(13,11)]<|K65 b),v7+1,(x35.1.Next,x35.1.Pairs),af,am,al,ae,R,(Jy2 ((T3 S58 S66 S179).wk R) [(12,9),(13,11)] R),((f68.stp S179).map (ren [(12,9),(13,11)]) R R),((f69.stp S179).map (ren [(12,9),(13,11)]) R R),(f180.map (ren [(12,9),(13,11)]) R R),by omega,by omega,hk63⟩,(ha.mm R)⟩
 refine JT λh=>Jx R<|Je [2,1,2] R<|Jf R (bK (parts:=[]) (cells:=[.slice none 0 0,.slice none 0 0]) R R (by kernel_rfl))<|Jv3 (κ:=K65) 3 (vc:=[.slice none 0 0,.slice none 0 0]) R Z71 R (f8.stp<|T8 S15 S29 S34 S38 S42 S45 S58 S66) R λw173 S174 f175=>Tv<|Jb 1 R<|Ju<|Jw<|Ja1<|Jw<|Jw ?_
 cases h
 obtain rfl:=Option.some.inj hk63
 have h:=yL hK48
 refine Ja1<|Jq2<|Jw<|Ja2 (l:=[.cell 4 71,.tmp 5]) V51 (bM R f175 I71 Z71 R<|Jp2 R R) R ?_
 cases h
 exact⟨K65,none,0,none,0,R,(hE.stp<|T11 S3 S7 S15 S29 S34 S38 S42 S45 S58 S66 S174),Ow.nil,Ow.nil⟩
 rintro _ w50 ⟨K51,s3,ai,aj,ah,ak,rfl,S52,f53,f54,f55,rfl⟩
 have h:=yI hK48
 refine Jp<|Je [1,1,2] R<|Jb4 tv R (Jc4 (haE f55.cells) I71 Z71 R)<|Jv3 (κ:=K51) 3 (vc:=[.slice ai s3.1.length aj,.slice ah s3.2.length ak]) R Z71 R (f8.stp<|T7 S15 S29 S34 S38 S42 S45 S52) R λw184 S185 f186=>Tv<|Jb 1 R<|Ju<|Ja2 (l:=[.cell 4 71,.tmp 5]) V51 (bM R f186 I71 Z71 R<|Jp2 R R) R ?_
 cases h
 exact⟨(λb=>ren [(9,2),(11,3)]<|K51 b),ai,aj,ah,ak,R,((hE.stp<|T10 S3 S7 S15 S29 S34 S38 S42 S45 S52 S185).map (ren [(9,2),(11,3)]) R R),((f53.stp S185).map (ren [(9,2),(11,3)]) R R),((f54.stp S185).map (ren [(9,2),(11,3)]) R R)⟩
 refine JT λh=>Jx R<|Je [2,1,2] R<|Jf R (bK (parts:=[]) (cells:=[.slice none 0 0,.slice none 0 0]) R R (by kernel_rfl))<|Jv3 (κ:=K14) 3 (vc:=[.slice none 0 0,.slice none 0 0]) R Z71 R (f8.stp S15) R λw20 S21 f22=>Tv<|Jb 1 R<|Ju<|Jw<|Ja2 (l:=[.cell 4 71,.tmp 5]) V51 (bM R f22 I71 Z71 R<|Jp2 R R) R ?_
 cases h
 exact⟨K14,none,0,none,0,R,(hE.stp<|T4 S3 S7 S15 S21),Ow.nil,Ow.nil⟩
theorem pQ {p0:Sig}{aV ba aZ aX}{p1:Det}(g1_0:Rd (Rp.sl (Rp.int .i64)) κ w 0 aV ba p1.Next) (g1_1:Rd Pair.rp κ w 0 aZ aX p1.Pairs){r:Arena×(List Pair)×Bool}(h:fi p0 p1=some r):Ret Tryz.prog 65 [.agg #[vi p0.In,vi p0.Out],.agg #[.slice aV p1.Next.length ba,.slice aZ p1.Pairs.length aX]] w (λv w'=>∃(κ':Col) (ra0:Option Addr) (ru0:Nat) (ra1:Option Addr) (ru1:Nat) (ra2:Option Addr) (ru2:Nat),v= .tuple #[.agg #[.slice ra0 r.1.Owner.length ru0,.slice ra1 r.1.Next.length ru1],.slice ra2 r.2.1.length ru2,.bool r.2.2]/\Ent κ w κ' w'/\Oc E6 2 κ' w' 2 ra0 ru0 r.1.Owner/\Oc (Ep.fz (Rp.sl (Rp.int .i64))) 37 κ' w' 3 ra1 ru1 r.1.Next/\Oc Pair.ep127 127 κ' w' 4 ra2 ru2 r.2.1):=by
 unfold fi at h
 refine Jk3 κ F65 R N65 R λhE=>Je [1,1,1,2,2] R<|Js3 (κ:=κ) 2 R λb2 w1 K2 S3 f4=>Tv<|Js3 (κ:=K2) 3 R λb3 w5 K6 S7 f8=>Tv<|Jt3 (κ:=K6) 4 R X75 R λb4 w9 K10 S11 f12=>Tv<|Jb 2 R<|Jq<|Je [1,1,1,2] R ?_
 have f13:=f4.stp (S7.tr S11)
 refine Jb4 tv R (Jc4 (haE f13.cells) I28 Z28 R) ?_
 have f14:=f8.stp S11
 refine Jb4 tv R (Jc4 (haE f14.cells) I71 Z71 R)<|Ob h λx19 hx19 h=>?_
 have f15:=g1_0.stp (T3 S3 S7 S11)
 have f16:=g1_1.stp (T3 S3 S7 S11)
 refine Jr3 R C123 (lJ (κ:=Mk K10) (p0:=p0) (p1:=p1) (Ji3 f15) (Ji3 f16) hx19) ?_
 rintro _ w17 ⟨k18,rfl,e19⟩
 obtain⟨K20,S21,m22⟩:=Ji e19 5 R
 refine Tv<|Jb 1 R ?_
 revert h
 cases ht24:(!x19)
 refine JF λh=>Jy R<|Js<|Jp<|Je [2,1,2,2] R<|Jd3 R U71 R Z31 ?_
 have f35:=f14.stp S21
 refine Jb3 R I31 (f35.ld 0 R R)<|Jn3 R U31 R R<|Jb 1 R<|Je [1,1,2] R ?_
 have f36:=f13.stp S21
 refine Jb4 tv R (Jc4 (haE f36.cells) I28 Z28 R)<|Ob h λx27 hx27 h=>Jr3 R C129 (pZ (κ:=Mk K20) (p0:=p0) hx27) ?_
 rintro _ w37 ⟨k38,rfl,e39⟩
 obtain⟨K40,S41,m42⟩:=Ji e39 7 R
 refine Tv<|Jb 1 R<|Je [2,1,1] R<|Jf R (bK (parts:=[]) (cells:=[.slice none 0 0,.slice none 0 0]) R R (by kernel_rfl))<|Jt3 (κ:=K40) 9 R X75 R λb9 w44 K45 S46 f47=>Tv<|Jv3 (κ:=K45) 9 (vc:=[.slice none 0 0,.slice none 0 0]) R Z75 R f47 R λw48 S49 f50=>Tv<|Jd<|Jq<|Je3 R ?_
 have hN51:(p1.Next.length:Int)<=9223372036854775807:=f15.len_le
 refine Ob h λq2 hq53 hK52=>?_
 clear h
 refine Jo3 [2,3,4,7,8,9] (λE L w'=>∃κ',∃s3:(List Int)×(List<|List Int),∃az aB ax aO,L=E/\Stp [9,10,11,12,14] K45 w48 κ' w'/\Oc E6 2 κ' w' 10 az aB s3.1/\Oc (Ep.fz<|Rp.sl<|Rp.int .i64) 37 κ' w' 11 ax aO s3.2/\Bc κ' w' 9 b9 75 [.slice az s3.1.length aB,.slice ax s3.2.length aO]/\q2=yD s3) ?_ ?_
 refine Jv<|Jp3 [2,3,4,7,8,9] (λk E L w'=>∃κ' v10,∃s1:(List Int)×(List<|List Int),∃aC ar aj ak,L=(10,vi v10)::E/\Stp [9,10,11,12,14] K45 w48 κ' w'/\Oc E6 2 κ' w' 10 aC ar s1.1/\Oc (Ep.fz<|Rp.sl<|Rp.int .i64) 37 κ' w' 11 aj ak s1.2/\Bc κ' w' 9 b9 75 [.slice aC s1.1.length ar,.slice aj s1.2.length ak]/\0<=v10/\yG ((p1.Next.length:Int)-v10)=k/\cntM (dW p1 x27) k v10 s1=some q2) ⟨_,_,⟨K45,0,((([]:List Int):(List Int)),(([]:List (List Int)):(List<|List Int))),none,0,none,0,R,Jj3,Ow.nil,Ow.nil,f50,(by decide),(by simp),hq53⟩,(KM R)⟩ ?_
 rintro k _ w60 ⟨K61,v10,s1,aC,ar,aj,ak,rfl,S62,f63,f64,f65,hj51,hJ51,h⟩
 rcases k with _ | k
 have hk66:=h;obtain⟨o51,h⟩:=bT (yD (yE s1):(Arena×(List Pair)×Bool)⊕(((List Int)×(List (List Int)))⊕((List Int)×(List (List Int)))))
 have hc51:decide (v10<(p1.Next.length:Int))=false:=Jo2 (by omega)
 refine Jq<|Je3 R<|Jw2 R hc51<|Jc1<|Jt<|Jt ?_
 cases h
 have h:=hk66
 refine Jb1 ?_
 cases h
 exact Jw1 _ ⟨K61,(s1.1,s1.2),aC,ar,aj,ak,R,S62.wk R,f63,f64,f65,R⟩<|KM R
 obtain⟨o51,h,hk66⟩:=BI h;unfold dW at h
 have hc51:decide (v10<(p1.Next.length:Int))=true:=Jn2 (by omega)
 refine Jq<|Je3 R<|Jv2 R hc51<|Js<|Jp<|Jq<|Jv<|Je [1,2] R<|Jx3 (κ:=K61) (E:=E6) 12 R Y37 bG R λbi bb w67 K68 S69 f70=>Tv<|Jb 1 R<|Jq<|Je3 R<|Ob h λ_ hr71 h=>?_
 have hN71:=jo hr71
 refine Ob h λq5 hq73 hK72=>?_
 clear h
 refine Jo3 [2,3,4,7,8,9,10] (λE L w'=>∃κ',∃s6:(List Int),∃ao am,L=(11,.slice ao s6.length am)::E/\Stp [12] K68 w67 κ' w'/\Oc E6 2 κ' w' 12 ao am s6/\q5=yD s6) ?_ ?_
 refine Jv<|Jp3 [2,3,4,7,8,9,10] (λk E L w'=>∃κ' v12,∃s4:(List Int),∃aD au,L=(11,.slice aD s4.length au)::(12,vi v12)::E/\Stp [12] K68 w67 κ' w'/\Oc E6 2 κ' w' 12 aD au s4/\0<=v12/\yG (x27-v12)=k/\cntM (ee p1 x27 v10) k v12 s4=some q5) ⟨_,_,⟨K68,0,(([]:List Int):(List Int)),bi,bb,R,Jj3,f70,(by decide),(by simp),hq73⟩,(KM R)⟩ ?_
 rintro k _ w78 ⟨K79,v12,s4,aD,au,rfl,S80,f81,hj71,hJ71,h⟩
 rcases k with _ | k
 have hk82:=h;obtain⟨o71,h⟩:=bT (yD (yE s4):(Arena×(List Pair)×Bool)⊕(((List Int))⊕((List Int))))
 have hc71:decide (v12<x27)=false:=Jo2 (by omega)
 refine Jq<|Je3 R<|Jw2 R hc71<|Jc1<|Jt<|Jt ?_
 cases h
 have h:=hk82
 refine Jb1 ?_
 cases h
 exact Jw1 _ ⟨K79,s4,aD,au,R,S80.wk R,f81,R⟩<|KM R
 obtain⟨o71,h,hk82⟩:=BI h;unfold ee at h
 have hc71:decide (v12<x27)=true:=Jn2 (by omega)
 refine Jq<|Je3 R<|Jv2 R hc71<|Js<|Jp<|Jq<|Jv<|Jh3 [2,2,2,2,2,2,2,2,1,1,2] 8 R<|Jw3 (κ:=K79) (E:=E6) 13 [] (parts:=[(0,.tmp 47)]) (cells:=[vi<|IntKind.i64.wrap ((IntKind.i64.wrap ((p1.Next.length:Int)+(IntKind.i64.wrap<|v10 * x27)))+v12)]) (xs:=([(IntKind.i64.wrap ((IntKind.i64.wrap ((p1.Next.length:Int)+(IntKind.i64.wrap<|v10 * x27)))+v12))]:List Int)) R Y37 bG R ⟨[vi<|IntKind.i64.wrap ((IntKind.i64.wrap ((p1.Next.length:Int)+(IntKind.i64.wrap<|v10 * x27)))+v12)],[],Zl K79 w78 [],Zl K79 w78 [],R,Zl.sp (l1:=[]) (l2:=[]) R,Zl.sr (l1:=[]) (l2:=[]),R,R⟩ λbm bl w83 K84 S85 f86=>Tv<|Ob h λx49 hx49 h=>Jy3 (κ:=K84) (E:=E6) 12 [] R Y37 bG R (f81.stp S85) (Sl.srcP (bP _) f86.rdc) bI hx49 R λbe bh w88 K89 S90 f91=>Tv<|Jc 1 R<|Jz<|Jp<|Jf3 R ?_
 have hw71:yC .i64 (v12+1)=v12+1:=wr1 hj71 (Jm2 hc71) hN71
 rw[hw71]
 have hc71:=Jm2 hc71
 cases h
 exact Jz1 λa ha=>⟨k,_,Ja3 _,⟨K89,v12+1,x49,be,bh,R,(T3 S80 S85 S90).wk R,f91,by omega,by omega,hk82⟩,(ha.mm R)⟩
 rintro _ w74 ⟨K75,s6,ao,am,rfl,S76,f77,rfl⟩
 have h:=yI hK72
 refine Jp<|Je [2,1,1,1,2,1] R<|Jd3 R U75 R Z37 ?_
 have f92:=f65.stp (S69.tr S76)
 refine Jb3 R I37 (f92.ld 0 R R)<|Jw3 (κ:=K75) (E:=E6) 13 [] (parts:=[(0,.const (vi 1))]) (cells:=[vi 1]) (xs:=([1]:List Int)) R Y37 bG R ⟨[vi 1],[],Zl K75 w74 [],Zl K75 w74 [],R,Zl.sp (l1:=[]) (l2:=[]) R,Zl.sr (l1:=[]) (l2:=[]),R,R⟩ λbq bn w93 K94 S95 f96=>Tv<|Ob h λx53 hx53 h=>Jy3 (κ:=K94) (E:=E6) 10 [] R Y37 bG R (f63.stp<|T3 S69 S76 S95) (Sl.srcP (bP _) f96.rdc) bI hx53 R λaw aM w98 K99 S100 f101=>Tv<|Jd3 R U75 R Z37<|Ju3 (κ:=K99) 9 (off:=0) (vc:=[.slice aw x53.length aM]) (cs':=[.slice aw x53.length aM,.slice aj s1.2.length ak]) R Z37 R (f92.stp<|S95.tr S100) R λw103 S104 f105=>Tv<|Jd<|Ja [2,1,2,1,1,2,1] R<|Jd3 R U75 R Z31<|Jb3 R I31 (f105.ld 1 R R)<|Jn 1 R ?_
 obtain⟨K107,S108,z109⟩:=fV K99 w103 12
 refine Jw3 (κ:=K107) (E:=(Ep.fz<|Rp.sl<|Rp.int .i64)) 14 [] (parts:=[(0,.tmp 57)]) (cells:=[.slice ao s6.length am]) (xs:=([s6]:List (List Int))) R Y31 bQ R ⟨[.slice ao s6.length am],[],Zl K107 w103 [],Zl K107 w103 [],R,Zl.sp (l1:=[]) (l2:=[]) R,Zl.sr (l1:=[]) (l2:=[]),⟨_,_,R,(Sl.z1<|Sl.st z109 (f77.stp<|T3 S95 S100 S104).rdc)⟩,R⟩ λbw bo w111 K112 S113 f114=>Tv<|Ob h λx59 hx59 h=>Jy3 (κ:=K112) (E:=(Ep.fz<|Rp.sl<|Rp.int .i64)) 11 [14] R Y31 bQ R (f64.stp<|T7 S69 S76 S95 S100 S104 S108 S113) f114.src (dE R) hx59 R λaS aT w116 K117 S118 f119=>Tv<|Jd3 R U75 R Z31<|Ju3 (κ:=K117) 9 (off:=1) (vc:=[.slice aS x59.length aT]) (cs':=[.slice aw x53.length aM,.slice aS x59.length aT]) R Z31 R (f105.stp<|T3 S108 S113 S118) R λw121 S122 f123=>Tv<|Jo<|Jz<|Jp<|Jf3 R ?_
 have hw51:yC .i64 (v10+1)=v10+1:=wr1 hj51 (Jm2 hc51) hN51
 rw[hw51]
 have hc51:=Jm2 hc51
 cases h
 exact Jz1 λa ha=>⟨k,_,Ja3 _,⟨K117,v10+1,(x53,x59),aw,aM,aS,aT,R,(T10 S62 S69 S76 S95 S100 S104 S108 S113 S118 S122).wk R,(f101.stp<|T5 S104 S108 S113 S118 S122),(f119.stp S122),f123,by omega,by omega,hk66⟩,(ha.mm R)⟩
 rintro _ w54 ⟨K55,s3,az,aB,ax,aO,rfl,S56,f57,f58,f59,rfl⟩
 have h:=yI hK52
 refine Jp<|Jq<|Je3 R ?_
 have hN126:(p1.Next.length:Int)<=9223372036854775807:=f15.len_le
 refine Ob h λq8 hq128 hK127=>?_
 clear h
 refine Jo3 [3,4,9] (λE L w'=>∃κ',∃s9:(List Int)×(List<|List Int),∃ae ad af al,L=E/\Stp [9,10,11,16] K55 w54 κ' w'/\Oc E6 2 κ' w' 10 ae ad s9.1/\Oc (Ep.fz<|Rp.sl<|Rp.int .i64) 37 κ' w' 11 af al s9.2/\Bc κ' w' 9 b9 75 [.slice ae s9.1.length ad,.slice af s9.2.length al]/\q8=yD s9) ?_ ?_
 refine Jv<|Jp3 [2,3,4,7,8,9] (λk E L w'=>∃κ' v13,∃s7:(List Int)×(List<|List Int),∃ah ai an ab,L=(13,vi v13)::E/\Stp [9,10,11,16] K55 w54 κ' w'/\Oc E6 2 κ' w' 10 ah ai s7.1/\Oc (Ep.fz<|Rp.sl<|Rp.int .i64) 37 κ' w' 11 an ab s7.2/\Bc κ' w' 9 b9 75 [.slice ah s7.1.length ai,.slice an s7.2.length ab]/\0<=v13/\yG ((p1.Next.length:Int)-v13)=k/\cntM (eo p0 p1 x27) k v13 s7=some q8) ⟨_,_,⟨K55,0,(s3.1,s3.2),az,aB,ax,aO,R,Jj3,f57,f58,f59,(by decide),(by simp),hq128⟩,(KM R)⟩ ?_
 rintro k _ w135 ⟨K136,v13,s7,ah,ai,an,ab,rfl,S137,f138,f139,f140,hj126,hJ126,h⟩
 rcases k with _ | k
 have hk141:=h;obtain⟨o126,h⟩:=bT (yD (yE s7):(Arena×(List Pair)×Bool)⊕(((List Int)×(List (List Int)))⊕((List Int)×(List (List Int)))))
 have hc126:decide (v13<(p1.Next.length:Int))=false:=Jo2 (by omega)
 refine Jq<|Je3 R<|Jw2 R hc126<|Jc1<|Jt<|Jt ?_
 cases h
 have h:=hk141
 refine Jb1 ?_
 cases h
 exact Jw1 _ ⟨K136,(s7.1,s7.2),ah,ai,an,ab,R,S137.wk R,f138,f139,f140,R⟩<|KM R
 obtain⟨o126,h,hk141⟩:=BI h;unfold eo at h
 have hc126:decide (v13<(p1.Next.length:Int))=true:=Jn2 (by omega)
 refine Jq<|Je3 R<|Jv2 R hc126<|Js<|Jp<|Jq<|Jv<|Je3 R<|Ob h λ_ hr142 h=>?_
 have hN142:=jo hr142
 refine Ob h λq11 hq144 hK143=>?_
 clear h
 refine Jo3 [2,3,4,7,8,9,13] (λE L w'=>∃κ',∃s12:(List Int)×(List<|List Int),∃aI aA av aE,L=E/\Stp [9,10,11,16] K136 w135 κ' w'/\Oc E6 2 κ' w' 10 aI aA s12.1/\Oc (Ep.fz<|Rp.sl<|Rp.int .i64) 37 κ' w' 11 av aE s12.2/\Bc κ' w' 9 b9 75 [.slice aI s12.1.length aA,.slice av s12.2.length aE]/\q11=yD s12) ?_ ?_
 refine Jv<|Jp3 [2,3,4,7,8,9,13] (λk E L w'=>∃κ' v14,∃s10:(List Int)×(List<|List Int),∃aG aJ aa ac,L=(14,vi v14)::E/\Stp [9,10,11,16] K136 w135 κ' w'/\Oc E6 2 κ' w' 10 aG aJ s10.1/\Oc (Ep.fz<|Rp.sl<|Rp.int .i64) 37 κ' w' 11 aa ac s10.2/\Bc κ' w' 9 b9 75 [.slice aG s10.1.length aJ,.slice aa s10.2.length ac]/\0<=v14/\yG (x27-v14)=k/\cntM (dX p0 p1 v13) k v14 s10=some q11) ⟨_,_,⟨K136,0,(s7.1,s7.2),ah,ai,an,ab,R,Jj3,f138,f139,f140,(by decide),(by simp),hq144⟩,(KM R)⟩ ?_
 rintro k _ w151 ⟨K152,v14,s10,aG,aJ,aa,ac,rfl,S153,f154,f155,f156,hj142,hJ142,h⟩
 rcases k with _ | k
 have hk157:=h;obtain⟨o142,h⟩:=bT (yD (yE s10):(Arena×(List Pair)×Bool)⊕(((List Int)×(List (List Int)))⊕((List Int)×(List (List Int)))))
 have hc142:decide (v14<x27)=false:=Jo2 (by omega)
 refine Jq<|Je3 R<|Jw2 R hc142<|Jc1<|Jt<|Jt ?_
 cases h
 have h:=hk157
 refine Jb1 ?_
 cases h
 exact Jw1 _ ⟨K152,(s10.1,s10.2),aG,aJ,aa,ac,R,S153.wk R,f154,f155,f156,R⟩<|KM R
 obtain⟨o142,h,hk157⟩:=BI h;unfold dX at h
 have hc142:decide (v14<x27)=true:=Jn2 (by omega)
 refine Jq<|Je3 R<|Jv2 R hc142<|Js<|Jp<|Jq<|Jv<|Je [2,1,1,1,2,1] R<|Jd3 R U75 R Z37<|Jb3 R I37 (f156.ld 0 R R)<|Jw3 (κ:=K152) (E:=E6) 12 [] (parts:=[(0,.const (vi 0))]) (cells:=[vi 0]) (xs:=([0]:List Int)) R Y37 bG R ⟨[vi 0],[],Zl K152 w151 [],Zl K152 w151 [],R,Zl.sp (l1:=[]) (l2:=[]) R,Zl.sr (l1:=[]) (l2:=[]),R,R⟩ λbp bs w158 K159 S160 f161=>Tv<|Ob h λx74 hx74 h=>Jy3 (κ:=K159) (E:=E6) 10 [] R Y37 bG R (f154.stp S160) (Sl.srcP (bP _) f161.rdc) bI hx74 R λaq aF w163 K164 S165 f166=>Tv<|Jd3 R U75 R Z37<|Ju3 (κ:=K164) 9 (off:=0) (vc:=[.slice aq x74.length aF]) (cs':=[.slice aq x74.length aF,.slice aa s10.2.length ac]) R Z37 R (f156.stp<|S160.tr S165) R λw168 S169 f170=>Tv<|Jd<|Js1 (κ:=K164) [2,3,9] (some 10) [(0,2),(4,2),(5,2),(1,0),(2,0),(3,0),(6,1),(7,1),(8,1),(9,2)] [(10,1)] (by kernel_rfl) (by kernel_rfl) λw172 S171=>Jd3 R U75 R Z31<|Jn 2 R ?_
 have f173:=f170.stp S171
 have S001:=(T11 S21 S41 S46 S49 S56 S137 S153 S160 S165 S169 S171)
 have S002:=(T10 S41 S46 S49 S56 S137 S153 S160 S165 S169 S171)
 refine Jg R (Jc2 I31 R R<|hvC (f173.ld 1 R R) R)<|Jg R (Jc4 (haC (f36.stp S002).cells R) I28 Z28 R)<|Jg R (Jc4 (haC (f35.stp S002).cells R) I71 Z71 R)<|Ob h λx82 hx82 h=>Jr3 R C130 (qE (κ:=λb=>mp [] 1<|K164 b) (p0:=p0) (p1:=p1) (Jl2 (f15.stp S001) (mp [] 1) R R) (Jl2 (f16.stp S001) (mp [] 1) R R) hx82) ?_
 rintro _ w178 ⟨k179,aY,aW,rfl,e180,f181⟩
 obtain⟨K182,S183,m184,z185⟩:=Jj e180 13 R
 refine⟨(S183.cl R),Jw3 (κ:=K182) (E:=(Ep.fz<|Rp.sl<|Rp.int .i64)) 16 [] (parts:=[(0,.tmp 82)]) (cells:=[.slice aY x82.length aW]) (xs:=([x82]:List (List Int))) R Y31 bQ R ⟨[.slice aY x82.length aW],[],Zl K182 w178 [],Zl K182 w178 [],R,Zl.sp (l1:=[]) (l2:=[]) R,Zl.sr (l1:=[]) (l2:=[]),⟨_,_,R,(Sl.z1<|f181.mx z185)⟩,R⟩ λbu bv w187 K188 S189 f190=>⟨((S183.tr S189).cl R),Ob h λx84 hx84 h=>Jy3 (κ:=K188) (E:=(Ep.fz<|Rp.sl<|Rp.int .i64)) 11 [16] R Y31 bQ R (f155.stp<|T6 S160 S165 S169 S171 S183 S189) f190.src (dE R) hx84 R λaR aU w192 K193 S194 f195=>⟨((T3 S183 S189 S194).cl R),Jd3 R U75 R Z31<|Jt1<|Ju3 (κ:=K193) 9 (off:=1) (vc:=[.slice aR x84.length aU]) (cs':=[.slice aq x74.length aF,.slice aR x84.length aU]) R Z31 R (f173.stp<|T3 S183 S189 S194) R λw197 S198 f199=>Tv<|Jo<|Jz<|Jp<|Jf3 R ?_⟩⟩⟩
 have hw142:yC .i64 (v14+1)=v14+1:=wr1 hj142 (Jm2 hc142) hN142
 rw[hw142]
 have hc142:=Jm2 hc142
 cases h
 exact Jz1 λa ha=>⟨k,_,Ja3 _,⟨K193,v14+1,(x74,x84),aq,aF,aR,aU,R,(T9 S153 S160 S165 S169 S171 S183 S189 S194 S198).wk R,(f166.stp<|T6 S169 S171 S183 S189 S194 S198),(f195.stp S198),f199,by omega,by omega,hk157⟩,(ha.mm R)⟩
 rintro _ w145 ⟨K146,s12,aI,aA,av,aE,rfl,S147,f148,f149,f150,rfl⟩
 have h:=yI hK143
 refine Jz<|Jp<|Jf3 R ?_
 have hw126:yC .i64 (v13+1)=v13+1:=wr1 hj126 (Jm2 hc126) hN126
 rw[hw126]
 have hc126:=Jm2 hc126
 cases h
 exact Jz1 λa ha=>⟨k,_,Ja3 _,⟨K146,v13+1,(s12.1,s12.2),aI,aA,av,aE,R,(S137.tr S147).wk R,f148,f149,f150,by omega,by omega,hk141⟩,(ha.mm R)⟩
 rintro _ w129 ⟨K130,s9,ae,ad,af,al,rfl,S131,f132,f133,f134,rfl⟩
 have h:=yI hK127
 refine Jp<|Je [1,2] R<|Jx3 (κ:=K130) (E:=Pair.ep127) 12 R Y69 cw R λbk bj w202 K203 S204 f205=>Tv<|Jb 1 R<|Jq<|Je3 R ?_
 have hN206:(p1.Pairs.length:Int)<=9223372036854775807:=f16.len_le
 refine Ob h λq14 hq208 hK207=>?_
 clear h
 refine Jo3 [4,9] (λE L w'=>∃κ',∃s15:(List Pair),∃aK aN,L=(15,.slice aK s15.length aN)::E/\Stp [12,15,18,19] K203 w202 κ' w'/\Oc Pair.ep127 127 κ' w' 12 aK aN s15/\q14=yD s15) ?_ ?_
 refine Jv<|Jp3 [3,4,9] (λk E L w'=>∃κ' v16,∃s13:(List Pair),∃aL aP,L=(15,.slice aL s13.length aP)::(16,vi v16)::E/\Stp [12,15,18,19] K203 w202 κ' w'/\Oc Pair.ep127 127 κ' w' 12 aL aP s13/\0<=v16/\yG ((p1.Pairs.length:Int)-v16)=k/\cntM (eg p1) k v16 s13=some q14) ⟨_,_,⟨K203,0,(([]:List Pair):(List Pair)),bk,bj,R,Jj3,f205,(by decide),(by simp),hq208⟩,(KM R)⟩ ?_
 rintro k _ w213 ⟨K214,v16,s13,aL,aP,rfl,S215,f216,hj206,hJ206,h⟩
 rcases k with _ | k
 have hk217:=h;obtain⟨o206,h⟩:=bT (yD (yE s13):(Arena×(List Pair)×Bool)⊕(((List Pair))⊕((List Pair))))
 have hc206:decide (v16<(p1.Pairs.length:Int))=false:=Jo2 (by omega)
 refine Jq<|Jg3 [2,2,1,2,2] 1 R<|Jd3 R U71 R Z69<|Jb3 R I69 ((f35.stp<|T7 S41 S46 S49 S56 S131 S204 S215).ld 1 R R)<|Jn3 R U69 R R<|Jb 1 R<|Jw2 R hc206<|Jc1<|Jt<|Jt ?_
 cases h
 have h:=hk217
 refine Jb1 ?_
 cases h
 exact Jw1 _ ⟨K214,s13,aL,aP,R,S215.wk R,f216,R⟩<|KM R
 obtain⟨o206,h,hk217⟩:=BI h;unfold eg at h
 have hc206:decide (v16<(p1.Pairs.length:Int))=true:=Jn2 (by omega)
 refine Jq<|Jg3 [2,2,1,2,2] 1 R<|Jd3 R U71 R Z69 ?_
 have f219:=f35.stp (T7 S41 S46 S49 S56 S131 S204 S215)
 refine Jb3 R I69 (f219.ld 1 R R)<|Jn3 R U69 R R<|Jb 1 R<|Jv2 R hc206<|Js<|Jp<|Jq<|Jv<|Js1 (κ:=K214) [0,3] none [(0,2),(1,2),(3,2),(8,2),(10,2),(2,0),(4,2),(5,2),(6,0),(9,0),(11,2),(12,2),(13,0),(7,1),(14,1),(15,2),(16,1),(17,1),(18,2)] [] (by kernel_rfl) (by kernel_rfl) λw221 S220=>Jn 1 R<|Jd3 R U71 R Z69<|Jn 1 R<|Jd3 R U71 R Z69<|Jn 1 R ?_
 have f222:=f219.stp S220
 refine Jg R (Jc2 I69 R R<|hvC (f222.ld 1 R R) R)<|Ob h λx98 hx98 h=>Jc3 R f16 hx98 U69 Z127<|Jd3 R U127 R Z37 ?_
 have f223:=f16.stp (T9 S21 S41 S46 S49 S56 S131 S204 S215 S220)
 obtain⟨cse224,hre224,hle224⟩:=(f223).gSt hx98
 obtain⟨ae224_0,ue224_0,ae224_1,ue224_1,rfl,fe224_0,fe224_1⟩:=Pair.un hre224
 refine Jg R (Jc2 I37 R R<|hvC (λw' hw'=>hle224 w' hw' 0 _ R) R)<|Jg R (Jc2 I69 R R<|hvC (f222.ld 1 R R) R)<|Ob h λx105 hx105 h=>Jc3 R f223 hx105 U69 Z127<|Jd3 R U127 R Z37 ?_
 obtain⟨cse225,hre225,hle225⟩:=(f223).gSt hx105
 obtain⟨ae225_0,ue225_0,ae225_1,ue225_1,rfl,fe225_0,fe225_1⟩:=Pair.un hre225
 refine Jg R (Jc2 I37 R R<|hvC (λw' hw'=>hle225 w' hw' 1 _ R) R)<|Ob h λx101 hx101 h=>Jr3 R C131 (km (κ:=Mk K214) (Ji3 fe224_0) hx101) ?_
 rintro _ w226 ⟨k227,ap,ay,rfl,e228,f229⟩
 obtain⟨K230,S231,m232⟩:=Ji e228 13 R
 refine⟨(S231.cl R),Ob h λx108 hx108 h=>Jr3 R C131 (km (κ:=Mk K230) (Ji3<|fe225_1.stp S231) hx108) ?_⟩
 rintro _ w236 ⟨k237,aQ,aH,rfl,e238,f239⟩
 obtain⟨K240,S241,m242⟩:=Ji e238 16 R
 have S003:=(S231.tr S241)
 refine⟨(S003.cl R),Jf R (bK (parts:=[(0,.tmp 101),(1,.tmp 108)]) (cells:=[.slice ap x101.length ay,.slice aQ x108.length aH]) R R (by kernel_rfl))<|Jw3 (κ:=K240) (E:=Pair.ep127) 19 [15,18] (parts:=[(0,.tmp 109)]) (cells:=[.slice ap x101.length ay,.slice aQ x108.length aH]) (xs:=([(⟨x101,x108⟩:Pair)]:List Pair)) R Y69 cw R ⟨[.slice ap x101.length ay,.slice aQ x108.length aH],[],Zl K240 w236 [15,18],Zl K240 w236 [],R,Zl.sp (l1:=[15,18]) (l2:=[]) R,Zl.sr (l1:=[15,18]) (l2:=[]),⟨[.slice ap x101.length ay],[.slice aQ x108.length aH],Zl K240 w236 [15],Zl K240 w236 [18],R,Zl.sp (l1:=[15]) (l2:=[18]) R,Zl.sr (l1:=[15]) (l2:=[18]),⟨_,_,R,((f229.mx (bL _) m232 R (R:13+2=15)).stp S241)⟩,⟨_,_,R,(f239.mx (bL _) m242 R (R:16+2=18))⟩⟩,R⟩ λbr bt w246 K247 S248 f249=>⟨((S003.tr S248).cl R),Ob h λx111 hx111 h=>Jy3 (κ:=K247) (E:=Pair.ep127) 12 [19] R Y69 cw R (f216.stp<|T4 S220 S231 S241 S248) f249.src (dE R) hx111 R λbf bd w251 K252 S253 f254=>⟨((T3 S003 S248 S253).cl R),Jn 1 R<|Jt1<|Jo<|Jz<|Jp<|Jf3 R ?_⟩⟩⟩
 have hw206:yC .i64 (v16+1)=v16+1:=wr1 hj206 (Jm2 hc206) hN206
 rw[hw206]
 have hc206:=Jm2 hc206
 cases h
 exact Jz1 λa ha=>⟨k,_,Ja3 _,⟨K252,v16+1,x111,bf,bd,R,(T6 S215 S220 S231 S241 S248 S253).wk R,f254,by omega,by omega,hk217⟩,(ha.mm R)⟩
 rintro _ w209 ⟨K210,s15,aK,aN,rfl,S211,f212,rfl⟩
 have h:=yI hK207
 refine Jp<|Je [1,2,1,2,2] R<|Jb4 tv R (Jc4 (haE (f134.stp<|S204.tr S211).cells) I75 Z75 R)<|Jn 1 R<|Jv3 (κ:=K210) 4 (vc:=[.slice ae s9.1.length ad,.slice af s9.2.length al]) R Z75 R (f12.stp<|T8 S21 S41 S46 S49 S56 S131 S204 S211) R λw257 S258 f259=>Tv<|Jb 2 R<|Ju<|Ja2 (l:=[.cell 4 75,.tmp 5,.tmp 6]) V65 (bM R f259 I75 Z75 R<|Jp2 R<|Jp2 R R) R ?_
 cases h
 have S004:=(T3 S204 S211 S258)
 exact⟨(λb=>ren [(10,2),(11,3),(12,4)]<|K210 b),ae,ad,af,al,aK,aN,R,((hE.stp<|T12 S3 S7 S11 S21 S41 S46 S49 S56 S131 S204 S211 S258).map (ren [(10,2),(11,3),(12,4)]) R R),((f132.stp S004).map (ren [(10,2),(11,3),(12,4)]) R R),((f133.stp S004).map (ren [(10,2),(11,3),(12,4)]) R R),((f212.stp S258).map (ren [(10,2),(11,3),(12,4)]) R R)⟩
 refine JT λh=>Jx R<|Je [2,1,1,2,2] R<|Jf R (bK (parts:=[]) (cells:=[.slice none 0 0,.slice none 0 0]) R R (by kernel_rfl))<|Jx3 (κ:=K20) (E:=Pair.ep127) 7 R Y69 cw R λbc bg w25 K26 S27 f28=>Tv<|Jv3 (κ:=K26) 4 (vc:=[.slice none 0 0,.slice none 0 0]) R Z75 R (f12.stp<|S21.tr S27) R λw30 S31 f32=>Tv<|Jb 2 R<|Ju<|Jw<|Ja2 (l:=[.cell 4 75,.tmp 5,.tmp 6]) V65 (bM R f32 I75 Z75 R<|Jp2 R<|Jp2 R R) R ?_
 cases h
 exact⟨(λb=>ren [(7,4)]<|K26 b),none,0,none,0,bc,bg,R,((hE.stp<|T6 S3 S7 S11 S21 S27 S31).map (ren [(7,4)]) R R),Ow.nil,Ow.nil,((f28.stp S31).map (ren [(7,4)]) R R)⟩
theorem tp {p0:Sig}{aa ad ac ab}{p1:Det}{p2:Int}(g1_0:Rd (Rp.sl (Rp.int .i64)) κ w 0 aa ad p1.Next) (g1_1:Rd Pair.rp κ w 0 ac ab p1.Pairs){r:Int}(h:kI p0 p1 p2=some r):Ret Tryz.prog 124 [.agg #[vi p0.In,vi p0.Out],.agg #[.slice aa p1.Next.length ad,.slice ac p1.Pairs.length ab],vi p2] w (Pvi κ w r):=by
 unfold kI at h
 refine Jk3 κ F124 R N124 R λhE=>Je [1,1,2] R<|Js3 (κ:=κ) 2 R λb3 w1 K2 S3 f4=>Tv<|Js3 (κ:=K2) 3 R λb4 w5 K6 S7 f8=>Tv<|Jb 1 R<|Je [1,1,1,2,2,2,2,1,1,2,2] R<|Jb4 tv R (Jc4 (haE (f4.stp S7).cells) I28 Z28 R)<|Jb4 tv R (Jc4 (haE f8.cells) I71 Z71 R)<|Ob h λx18 hx18 h=>Jr3 R C65 (pQ (κ:=λb=>mp [] 1<|K6 b) (p0:=p0) (p1:=p1) (Jl2 (g1_0.stp<|S3.tr S7) (mp [] 1) R R) (Jl2 (g1_1.stp<|S3.tr S7) (mp [] 1) R R) hx18) ?_
 rintro _ w12 ⟨k13,ah,al,an,aj,aw,aA,rfl,e14,f15,f16,f17⟩
 obtain⟨K18,S19,m20,z21⟩:=Jj e14 4 R
 refine Tv<|Jn 4 R<|Jt3 (κ:=K18) 9 R X75 R λb7 w25 K26 S27 f28=>Tv<|Jv3 (κ:=K26) 9 (vc:=[.slice ah x18.1.Owner.length al,.slice an x18.1.Next.length aj]) R Z75 R f28 R λw29 S30 f31=>Tv<|Jb 2 R<|Je [1,2,2,1,2,2,2,2,1,1,2,2] R<|Jb4 tv R (Jc4 (haE f31.cells) I75 Z75 R)<|Jn 2 R ?_
 obtain⟨K33,S34,z35⟩:=fV K26 w29 6
 obtain⟨K38,S39,z40⟩:=fV K33 w29 7
 obtain⟨K43,S44,z45⟩:=fV K38 w29 8
 refine Ob h λx26 hx26 h=>Jr3 R C66 (qy (κ:=λb=>mp [] 1<|K43 b) (p0:=x18.1) (Jl2 ((Sl.st z35 ((f15.mx (bL _) m20 R (R:4+2=6)).stp (S27.tr S30)).rdc).stp (S39.tr S44)) (mp [] 1) R R) (Jl2 ((Sl.st z40 ((f16.mxz z21 m20 R (R:4+3=7)).stp (T3 S27 S30 S34)).rdc).stp S44) (mp [] 1) R R) (Jl2 (Sl.st z45 ((f17.mx Pair.no127 m20 R (R:4+4=8)).stp (T4 S27 S30 S34 S39)).rdc) (mp [] 1) R R) hx26) ?_
 rintro _ w49 ⟨k50,af,ao,ak,ai,am,ae,ay,aq,rfl,e51,f52,f53,f54,f55⟩
 obtain⟨K56,S57,m58,z59⟩:=Jj e51 10 R
 refine Tv<|Jn 4 R<|Jt3 (κ:=K56) 16 R X79 R λb10 w64 K65 S66 f67=>Tv<|Jv3 (κ:=K65) 16 (vc:=[.slice af x26.1.Arena.Owner.length ao,.slice ak x26.1.Arena.Next.length ai,.slice am x26.1.Prio.length ae]) R Z79 R f67 R λw68 S69 f70=>Tv<|Jb 2 R<|Jq<|Je3 R ?_
 revert h
 cases ht71:(!x26.2.2)
 refine JF λh=>Jy R<|Js<|Jp<|Jq<|Js1 (κ:=K65) [16] none [(0,0),(1,0),(2,1),(3,1),(4,2),(5,2),(6,2),(7,2),(8,2)] [] (by kernel_rfl) (by kernel_rfl) λw74 S73=>?_
 have f75:=f70.stp S73
 refine Jg R (Jc4 (haC f75.cells R) I79 Z79 R)<|Jg R (Jc4 (haC f75.cells R) I79 Z79 R)<|Ob h λx35 hx35 h=>?_
 have f76:=(f52.mx (bL _) m58 R (R:10+2=12)).stp (T3 S66 S69 S73)
 have f77:=(f53.mx (cR (bL _) _) m58 R (R:10+3=13)).stp (T3 S66 S69 S73)
 have f78:=(f54.mx (bL _) m58 R (R:10+4=14)).stp (T3 S66 S69 S73)
 refine Jr3 R C191 (tw (κ:=Mk K65) (p0:=x26.1) (Ji3 f76.rdc) (Ji3 f77.rdc) (Ji3 f78.rdc) hx35) ?_
 rintro _ w79 ⟨k80,ap,ar,rfl,e81,f82⟩
 obtain⟨K83,S84,m85⟩:=Ji e81 17 R
 refine⟨(S84.cl R),Ob h λx36 hx36 h=>Jr3 R C190 (ua (κ:=Mk K83) (p0:=x26.1) (Ji3 (f76.stp S84).rdc) (Ji3 (f77.stp S84).rdc) (Ji3 (f78.stp S84).rdc) (Ji3 (f82.mx (bL _) m85 R (R:17+2=19)).rdc) hx36) ?_⟩
 rintro _ w91 ⟨k92,az,ax,av,au,rfl,e93,f94,f95⟩
 obtain⟨K96,S97,m98⟩:=Ji e93 20 R
 refine⟨((S84.tr S97).cl R),Jn 5 R<|Jt1<|Jd<|Jg3 [2,1,1,2,2] 1 R<|Ob h λx40 hx40 h=>Jr3 R C81 (dK (κ:=Mk K96) (Ji3 (f94.mx (bL _) m98 R (R:20+2=22)).rdc) hx40) ?_⟩
 rintro _ w102 ⟨k103,rfl,e104⟩
 obtain⟨K105,S106,m107⟩:=Ji e104 24 R
 refine Tv<|Ob h λx41 hx41 h=>Jr3 R C192 (lW (κ:=Mk K105) hx41) ?_
 rintro _ w109 ⟨k110,rfl,e111⟩
 obtain⟨K112,S113,m114⟩:=Ji e111 26 R
 refine Tv<|Jb 2 R<|Ju<|Ja2 (l:=[.tmp 6]) V124 (Jp2 R R) R ?_
 cases h
 exact⟨K112,R,(hE.stp<|T16 S3 S7 S19 S27 S30 S34 S39 S44 S57 S66 S69 S73 S84 S97 S106 S113)⟩
 refine JT λh=>Jx R<|Je3 R<|Ju<|Jw<|Ja2 (l:=[.tmp 6]) V124 (Jp2 R R) R ?_
 cases h
 exact⟨K65,R,(hE.stp<|T11 S3 S7 S19 S27 S30 S34 S39 S44 S57 S66 S69)⟩
theorem oV {p0:Sig}{ab ac aa ad}{p1:Det}(g1_0:Rd (Rp.sl (Rp.int .i64)) κ w 0 ab ac p1.Next) (g1_1:Rd Pair.rp κ w 0 aa ad p1.Pairs){r:Int}(h:ju p0 p1=some r):Ret Tryz.prog 52 [.agg #[vi p0.In,vi p0.Out],.agg #[.slice ab p1.Next.length ac,.slice aa p1.Pairs.length ad]] w (Pvi κ w r):=by
 unfold ju at h
 refine Jk3 κ F52 R N52 R λhE=>Je [1,1,2] R<|Js3 (κ:=κ) 2 R λb2 w1 K2 S3 f4=>Tv<|Js3 (κ:=K2) 3 R λb3 w5 K6 S7 f8=>Tv<|Jb 1 R<|Jq<|Je [1,1,1,2] R ?_
 have f9:=f4.stp S7
 refine Jb4 tv R (Jc4 (haE f9.cells) I28 Z28 R)<|Jb4 tv R (Jc4 (haE f8.cells) I71 Z71 R)<|Ob h λx7 hx7 h=>?_
 have f10:=g1_0.stp (S3.tr S7)
 have f11:=g1_1.stp (S3.tr S7)
 refine Jr3 R C123 (lJ (κ:=Mk K6) (p0:=p0) (p1:=p1) (Ji3 f10) (Ji3 f11) hx7) ?_
 rintro _ w12 ⟨k13,rfl,e14⟩
 obtain⟨K15,S16,m17⟩:=Ji e14 4 R
 refine Tv<|Jb 1 R ?_
 revert h
 cases ht19:(!x7)
 refine JF λh=>Jy R<|Js<|Jp<|Je [1,1,1,2] R<|Jb4 tv R (Jc4 (haE (f9.stp S16).cells) I28 Z28 R)<|Jb4 tv R (Jc4 (haE (f8.stp S16).cells) I71 Z71 R)<|Ob h λx11 hx11 h=>Jr3 R C124 (tp (κ:=Mk K15) (p0:=p0) (p1:=p1) (Ji3<|f10.stp S16) (Ji3<|f11.stp S16) hx11) ?_
 rintro _ w25 ⟨k26,rfl,e27⟩
 obtain⟨K28,S29,m30⟩:=Ji e27 6 R
 refine Tv<|Jb 1 R<|Ju<|Ja2 (l:=[.tmp 4]) V52 (Jp2 R R) R ?_
 cases h
 exact⟨K28,R,(hE.stp<|T4 S3 S7 S16 S29)⟩
 refine JT λh=>Jx R<|Je3 R<|Ju<|Jw<|Ja2 (l:=[.tmp 4]) V52 (Jp2 R R) R ?_
 cases h
 exact⟨K15,R,(hE.stp<|T3 S3 S7 S16)⟩
theorem om {p0:Sig}{a1 u1}{p1:(List Clause)}(g1:Rd Clause.rp κ w 0 a1 u1 p1){r:Bool}(h:dT p0 p1=some r):Ret Tryz.prog 12 [.agg #[vi p0.In,vi p0.Out],.slice a1 p1.length u1] w (Pvb κ w r):=by
 unfold dT at h
 refine Jk3 κ F12 R N12 R λhE=>Je [1,2] R<|Js3 (κ:=κ) 2 R λb2 w1 K2 S3 f4=>Tv<|Jb 1 R<|Je [1,2,1,2,2,2,1,1,2] R<|Jb4 tv R (Jc4 (haE f4.cells) I28 Z28 R)<|Jn 1 R<|Ob h λx10 hx10 h=>Jr3 R C51 (pV (κ:=Mk K2) (p0:=p0) (Ji3<|g1.stp S3) hx10) ?_
 rintro _ w6 ⟨k7,ac,ad,aa,ab,rfl,e8,f9,f10⟩
 obtain⟨K11,S12,m13⟩:=Ji e8 3 R
 refine Tv<|Jn 3 R<|Jt3 (κ:=K11) 7 R X71 R λb5 w17 K18 S19 f20=>Tv<|Jv3 (κ:=K18) 7 (vc:=[.slice ac x10.1.Next.length ad,.slice aa x10.1.Pairs.length ab]) R Z71 R f20 R λw21 S22 f23=>Tv<|Jb 1 R<|Jg3 [2,2,1,1,1,2,2,2] 2 R<|Ob h λp19 h hK24=>Jq3 [4] (λE L w'=>L=(19,.bool p19)::E/\∃κ',Stp [] K18 w21 κ' w') [(2,1),(3,1),(4,1),(5,2),(6,2)] [(7,2)] tv ?_ ?_
 revert h
 cases ht25:x10.2
 refine JF λh=>Jz3 R<|Jz3 R<|Jz3 R<|Jn 2 R ?_
 cases h
 exact Jv1 _ tv ⟨R,_,Jj3⟩<|KM R
 refine JT λh=>Jb4 tv R (Jc4 (haE (f4.stp<|T3 S12 S19 S22).cells) I28 Z28 R)<|Jb4 tv R (Jc4 (haE f23.cells) I71 Z71 R)<|Ob h λx17 hx17 h=>Jr3 R C52 (oV (κ:=Mk K18) (p0:=p0) (p1:=x10.1) (Ji3 ((f9.mx (cR (bL _) _) m13 R (R:3+2=5)).stp (S19.tr S22)).rdc) (Ji3 ((f10.mx Pair.no127 m13 R (R:3+3=6)).stp (S19.tr S22)).rdc) hx17) ?_
 rintro _ w29 ⟨k30,rfl,e31⟩
 obtain⟨K32,S33,m34⟩:=Ji e31 8 R
 refine Tv<|Jn 2 R ?_
 cases h
 exact Jv1 _ tv ⟨R,_,S33.wk R⟩<|KM R
 rintro _ w36 _ ⟨rfl,K37,S38⟩
 have h:=hK24
 refine Jb 1 R<|Ju<|Ja2 (l:=[.tmp 4]) V12 (Jp2 R R) R ?_
 cases h
 exact⟨K37,R,(hE.stp<|T5 S3 S12 S19 S22 S38)⟩
theorem oo {ab aa ac ad}{p0:Arena}{a1 u1}{p1:(List Pair)}{p2:Int}(g0_0:Rd (Rp.int .i64) κ w 0 ab aa p0.Owner) (g0_1:Rd (Rp.sl (Rp.int .i64)) κ w 0 ac ad p0.Next) (g1:Rd Pair.rp κ w 0 a1 u1 p1){r:Int}(h:iM p0 p1 p2=some r):Ret Tryz.prog 125 [.agg #[.slice ab p0.Owner.length aa,.slice ac p0.Next.length ad],.slice a1 p1.length u1,vi p2] w (Pvi κ w r):=by
 unfold iM at h
 refine Jk3 κ F125 R N125 R λhE=>Je [1,2] R<|Js3 (κ:=κ) 2 R λb3 w1 K2 S3 f4=>Tv<|Jb 1 R<|Jq<|Je [1,1,2,2,2,1,1,1,2,2,2,1,2,1,2,2] R<|Jb4 tv R (Jc4 (haE f4.cells) I75 Z75 R)<|Ob h λx11 hx11 h=>?_
 have f5:=g0_0.stp S3
 have f6:=g0_1.stp S3
 refine Jr3 R C182 (nQ (κ:=Mk K2) (p0:=p0) (Ji3 f5) (Ji3 f6) hx11) ?_
 rintro _ w7 ⟨k8,rfl,e9⟩
 obtain⟨K10,S11,m12⟩:=Ji e9 3 R
 refine Tv<|Jn 2 R<|Ob h λp19 h hK14=>Jq3 [1,2,3] (λE L w'=>L=(19,.bool p19)::E/\∃κ',Stp [] K10 w7 κ' w') [(4,2),(5,1),(6,1),(7,1),(8,2),(9,2)] [(10,2),(11,1),(12,2),(13,1),(14,2),(15,2)] tv ?_ ?_
 revert h
 cases ht15:(!x11)
 refine JF λh=>Jn 1 R<|Jb4 tv R (Jc4 (haE (f4.stp S11).cells) I75 Z75 R)<|Ob h λx16 hx16 h=>Jr3 R C181 (oh (κ:=Mk K10) (p0:=p0) (Ji3<|f5.stp S11) (Ji3<|f6.stp S11) hx16) ?_
 rintro _ w19 ⟨k20,rfl,e21⟩
 obtain⟨K22,S23,m24⟩:=Ji e21 5 R
 refine Tv<|Ob h λx17 hx17 h=>Jr3 R C185 (m9 (κ:=Mk K22) (Ji3<|g1.stp<|T3 S3 S11 S23) hx17) ?_
 rintro _ w27 ⟨k28,rfl,e29⟩
 obtain⟨K30,S31,m32⟩:=Ji e29 7 R
 refine Tv<|Jn 2 R ?_
 cases h
 exact Jv1 _ tv ⟨R,_,(S23.tr S31).wk R⟩<|KM R
 refine JT λh=>Jn 1 R<|Jz3 R<|Jz3 R<|Jz3 R<|Jn 2 R ?_
 cases h
 exact Jv1 _ tv ⟨R,_,Jj3⟩<|KM R
 rintro _ w34 _ ⟨rfl,K35,S36⟩
 have h:=hK14
 refine Jn 1 R<|Ob h λp25 h hK37=>Jq3 [1,2,3] (λE L w'=>L=(25,.bool p25)::E/\∃κ',Stp [] K35 w34 κ' w') [(11,1),(12,2),(13,1),(14,2),(15,2)] [] tv ?_ ?_
 revert h
 cases ht38:p19
 refine JF λh=>Jb4 tv R (Jc4 (haE (f4.stp<|S11.tr S36).cells) I75 Z75 R)<|Jn 1 R<|Ob h λx23 hx23 h=>Jr3 R C193 (p9 (κ:=Mk K35) (p0:=p0) (Ji3<|f5.stp<|S11.tr S36) (Ji3<|f6.stp<|S11.tr S36) hx23) ?_
 rintro _ w42 ⟨k43,rfl,e44⟩
 obtain⟨K45,S46,m47⟩:=Ji e44 5 R
 refine Tv<|Jn 2 R ?_
 cases h
 exact Jv1 _ tv ⟨R,_,S46.wk R⟩<|KM R
 refine JT λh=>Jz3 R<|Jn 1 R<|Jz3 R<|Jn 2 R ?_
 cases h
 exact Jv1 _ tv ⟨R,_,Jj3⟩<|KM R
 rintro _ w49 _ ⟨rfl,K50,S51⟩
 have h:=hK37
 refine Jd ?_
 revert h
 cases ht52:p25
 have S001:=(T3 S11 S36 S51)
 refine JF λh=>Jy R<|Js<|Jp<|Je [1,2,2,1,2,2,2,2,1,1,2,2] R<|Jb4 tv R (Jc4 (haE (f4.stp S001).cells) I75 Z75 R)<|Jn 2 R<|Ob h λx30 hx30 h=>Jr3 R C43 (na (κ:=λb=>mp [] 1<|K50 b) (p0:=p0) (Jl2 (f5.stp S001) (mp [] 1) R R) (Jl2 (f6.stp S001) (mp [] 1) R R) (Jl2 (g1.stp<|T4 S3 S11 S36 S51) (mp [] 1) R R) hx30) ?_
 rintro _ w58 ⟨k59,ai,ak,af,aj,ae,ah,an,am,rfl,e60,f61,f62,f63,f64⟩
 obtain⟨K65,S66,m67,z68⟩:=Jj e60 5 R
 refine Tv<|Jn 4 R<|Jt3 (κ:=K65) 11 R X79 R λb7 w73 K74 S75 f76=>Tv<|Jv3 (κ:=K74) 11 (vc:=[.slice ai x30.1.Arena.Owner.length ak,.slice af x30.1.Arena.Next.length aj,.slice ae x30.1.Prio.length ah]) R Z79 R f76 R λw77 S78 f79=>Tv<|Jb 2 R<|Jq<|Je3 R ?_
 revert h
 cases ht80:(!x30.2.2)
 refine JF λh=>Jy R<|Js<|Jp<|Je [1,1,2,1,2] R<|Jb4 tv R (Jc4 (haE f79.cells) I79 Z79 R)<|Ob h λx37 hx37 h=>Jr3 R C44 (lD (κ:=Mk K74) (p0:=x30.1) (Ji3 ((f61.mx (bL _) m67 R (R:5+2=7)).stp (S75.tr S78)).rdc) (Ji3 ((f62.mxz z68 m67 R (R:5+3=8)).stp (S75.tr S78)).rdc) (Ji3 ((f63.mx (bL _) m67 R (R:5+4=9)).stp (S75.tr S78)).rdc) hx37) ?_
 rintro _ w85 ⟨k86,al,ao,rfl,e87,f88⟩
 obtain⟨K89,S90,m91⟩:=Ji e87 12 R
 refine Tv<|?_
 have f93:=f88.mx (bL _) m91 R (R:12+2=14)
 refine Ob h λx38 hx38 h=>Jc3 R f93.rdc hx38 U37 Z2<|Jb3 R I2 (f93.rdc.gInt hx38)<|Jb 1 R<|Ju<|Ja2 (l:=[.tmp 6]) V125 (Jp2 R R) R ?_
 cases h
 exact⟨K89,R,(hE.stp<|T8 S3 S11 S36 S51 S66 S75 S78 S90)⟩
 refine JT λh=>Jx R<|Je3 R<|Ju<|Jw<|Ja2 (l:=[.tmp 6]) V125 (Jp2 R R) R ?_
 cases h
 exact⟨K74,R,(hE.stp<|T7 S3 S11 S36 S51 S66 S75 S78)⟩
 refine JT λh=>Jx R<|Je3 R<|Ju<|Jw<|Ja2 (l:=[.tmp 6]) V125 (Jp2 R R) R ?_
 cases h
 exact⟨K50,R,(hE.stp<|T4 S3 S11 S36 S51)⟩
theorem oZ {p0:Sig}{ab ad aa ac}{p1:Det}(g1_0:Rd (Rp.sl (Rp.int .i64)) κ w 0 ab ad p1.Next) (g1_1:Rd Pair.rp κ w 0 aa ac p1.Pairs){r:Int}(h:jt p0 p1=some r):Ret Tryz.prog 53 [.agg #[vi p0.In,vi p0.Out],.agg #[.slice ab p1.Next.length ad,.slice aa p1.Pairs.length ac]] w (Pvi κ w r):=by
 unfold jt at h
 refine Jk3 κ F53 R N53 R λhE=>Je [1,1,2] R<|Js3 (κ:=κ) 2 R λb2 w1 K2 S3 f4=>Tv<|Js3 (κ:=K2) 3 R λb3 w5 K6 S7 f8=>Tv<|Jb 1 R<|Jq<|Je [1,1,2,2,1,1,1,2,2] R ?_
 have f9:=f4.stp S7
 refine Jb4 tv R (Jc4 (haE f9.cells) I28 Z28 R)<|Ob h λx8 hx8 h=>Jr3 R C82 (nh (κ:=Mk K6) (p0:=p0) hx8) ?_
 rintro _ w10 ⟨k11,rfl,e12⟩
 obtain⟨K13,S14,m15⟩:=Ji e12 4 R
 refine Tv<|Jn 2 R<|Ob h λp15 h hK17=>Jq3 [2,3] (λE L w'=>L=(15,.bool p15)::E/\∃κ',Stp [] K13 w10 κ' w') [(4,1),(5,1),(6,1),(7,2),(8,2)] [] tv ?_ ?_
 revert h
 cases ht18:(!x8)
 refine JF λh=>Jb4 tv R (Jc4 (haE (f9.stp S14).cells) I28 Z28 R)<|Jb4 tv R (Jc4 (haE (f8.stp S14).cells) I71 Z71 R)<|Ob h λx13 hx13 h=>Jr3 R C119 (qa (κ:=Mk K13) (p0:=p0) (p1:=p1) (Ji3<|g1_0.stp<|T3 S3 S7 S14) (Ji3<|g1_1.stp<|T3 S3 S7 S14) hx13) ?_
 rintro _ w23 ⟨k24,rfl,e25⟩
 obtain⟨K26,S27,m28⟩:=Ji e25 6 R
 refine Tv<|Jn 2 R ?_
 cases h
 exact Jv1 _ tv ⟨R,_,S27.wk R⟩<|KM R
 refine JT λh=>Jz3 R<|Jz3 R<|Jz3 R<|Jn 2 R ?_
 cases h
 exact Jv1 _ tv ⟨R,_,Jj3⟩<|KM R
 rintro _ w30 _ ⟨rfl,K31,S32⟩
 have h:=hK17
 refine Jd ?_
 revert h
 cases ht33:p15
 have S001:=(T4 S3 S7 S14 S32)
 refine JF λh=>Jy R<|Js<|Jp<|Je [1,1,1,2,2,2,1,1,2] R<|Jb4 tv R (Jc4 (haE (f9.stp<|S14.tr S32).cells) I28 Z28 R)<|Jb4 tv R (Jc4 (haE (f8.stp<|S14.tr S32).cells) I71 Z71 R)<|Ob h λx19 hx19 h=>Jr3 R C42 (mb (κ:=Mk K31) (p0:=p0) (p1:=p1) (Ji3<|g1_0.stp S001) (Ji3<|g1_1.stp S001) hx19) ?_
 rintro _ w39 ⟨k40,ah,ae,ai,af,ak,aj,rfl,e41,f42,f43,f44⟩
 obtain⟨K45,S46,m47⟩:=Ji e41 6 R
 refine Tv<|Jn 3 R<|Jt3 (κ:=K45) 11 R X75 R λb5 w52 K53 S54 f55=>Tv<|Jv3 (κ:=K53) 11 (vc:=[.slice ah x19.1.Owner.length ae,.slice ai x19.1.Next.length af]) R Z75 R f55 R λw56 S57 f58=>Tv<|Jb 1 R<|Je [1,2,1,2] R<|Jb4 tv R (Jc4 (haE f58.cells) I75 Z75 R)<|Jn 1 R<|Ob h λx24 hx24 h=>Jr3 R C125 (oo (κ:=Mk K53) (p0:=x19.1) (Ji3 ((f42.mx (bL _) m47 R (R:6+2=8)).stp (S54.tr S57)).rdc) (Ji3 ((f43.mx (cR (bL _) _) m47 R (R:6+3=9)).stp (S54.tr S57)).rdc) (Ji3 ((f44.mx Pair.no127 m47 R (R:6+4=10)).stp (S54.tr S57)).rdc) hx24) ?_
 rintro _ w62 ⟨k63,rfl,e64⟩
 obtain⟨K65,S66,m67⟩:=Ji e64 12 R
 refine Tv<|Jb 1 R<|Ju<|Ja2 (l:=[.tmp 4]) V53 (Jp2 R R) R ?_
 cases h
 exact⟨K65,R,(hE.stp<|T8 S3 S7 S14 S32 S46 S54 S57 S66)⟩
 refine JT λh=>Jx R<|Je3 R<|Ju<|Jw<|Ja2 (l:=[.tmp 4]) V53 (Jp2 R R) R ?_
 cases h
 exact⟨K31,R,(hE.stp<|T4 S3 S7 S14 S32)⟩
theorem ou {p0:Sig}{a1 u1}{p1:(List Clause)}(g1:Rd Clause.rp κ w 0 a1 u1 p1){r:Bool}(h:dQ p0 p1=some r):Ret Tryz.prog 13 [.agg #[vi p0.In,vi p0.Out],.slice a1 p1.length u1] w (Pvb κ w r):=by
 unfold dQ at h
 refine Jk3 κ F13 R N13 R λhE=>Je [1,2] R<|Js3 (κ:=κ) 2 R λb2 w1 K2 S3 f4=>Tv<|Jb 1 R<|Je [1,2,1,2,2,2,1,1,2] R<|Jb4 tv R (Jc4 (haE f4.cells) I28 Z28 R)<|Jn 1 R<|Ob h λx10 hx10 h=>Jr3 R C41 (me (κ:=Mk K2) (p0:=p0) (Ji3<|g1.stp S3) hx10) ?_
 rintro _ w6 ⟨k7,ac,ad,aa,ab,rfl,e8,f9,f10⟩
 obtain⟨K11,S12,m13⟩:=Ji e8 3 R
 refine Tv<|Jn 3 R<|Jt3 (κ:=K11) 7 R X71 R λb5 w17 K18 S19 f20=>Tv<|Jv3 (κ:=K18) 7 (vc:=[.slice ac x10.1.Next.length ad,.slice aa x10.1.Pairs.length ab]) R Z71 R f20 R λw21 S22 f23=>Tv<|Jb 1 R<|Jg3 [2,2,1,1,1,2,2,2] 2 R<|Ob h λp19 h hK24=>Jq3 [4] (λE L w'=>L=(19,.bool p19)::E/\∃κ',Stp [] K18 w21 κ' w') [(2,1),(3,1),(4,1),(5,2),(6,2)] [(7,2)] tv ?_ ?_
 revert h
 cases ht25:x10.2
 refine JF λh=>Jz3 R<|Jz3 R<|Jz3 R<|Jn 2 R ?_
 cases h
 exact Jv1 _ tv ⟨R,_,Jj3⟩<|KM R
 refine JT λh=>Jb4 tv R (Jc4 (haE (f4.stp<|T3 S12 S19 S22).cells) I28 Z28 R)<|Jb4 tv R (Jc4 (haE f23.cells) I71 Z71 R)<|Ob h λx17 hx17 h=>Jr3 R C53 (oZ (κ:=Mk K18) (p0:=p0) (p1:=x10.1) (Ji3 ((f9.mx (cR (bL _) _) m13 R (R:3+2=5)).stp (S19.tr S22)).rdc) (Ji3 ((f10.mx Pair.no127 m13 R (R:3+3=6)).stp (S19.tr S22)).rdc) hx17) ?_
 rintro _ w29 ⟨k30,rfl,e31⟩
 obtain⟨K32,S33,m34⟩:=Ji e31 8 R
 refine Tv<|Jn 2 R ?_
 cases h
 exact Jv1 _ tv ⟨R,_,S33.wk R⟩<|KM R
 rintro _ w36 _ ⟨rfl,K37,S38⟩
 have h:=hK24
 refine Jb 1 R<|Ju<|Ja2 (l:=[.tmp 4]) V13 (Jp2 R R) R ?_
 cases h
 exact⟨K37,R,(hE.stp<|T5 S3 S12 S19 S22 S38)⟩
theorem rO {p0:Sig}{a1 u1}{p1:(List Clause)}{ad ab ac aa}{p2:Word}(g1:Rd Clause.rp κ w 0 a1 u1 p1) (g2_0:Rd (Rp.int .i64) κ w 0 ad ab p2.Stem) (g2_1:Rd (Rp.int .i64) κ w 0 ac aa p2.Loop){r:Bool}(h:mJ p0 p1 p2=some r):Ret Tryz.prog 16 [.agg #[vi p0.In,vi p0.Out],.slice a1 p1.length u1,.agg #[.slice ad p2.Stem.length ab,.slice ac p2.Loop.length aa]] w (Pvb κ w r):=by
 unfold mJ at h
 refine Jk3 κ F16 R N16 R λhE=>Je [1,1,2] R<|Js3 (κ:=κ) 2 R λb3 w1 K2 S3 f4=>Tv<|Js3 (κ:=K2) 3 R λb5 w5 K6 S7 f8=>Tv<|Jb 1 R<|Je [1,2,1,1,2,2] R<|Jb4 tv R (Jc4 (haE (f4.stp S7).cells) I28 Z28 R)<|Jn 1 R<|Jb4 tv R (Jc4 (haE f8.cells) I39 Z39 R)<|Ob h λx10 hx10 h=>Jr3 R C28 (oE (κ:=Mk K6) (p0:=p0) (p2:=p2) (Ji3<|g1.stp<|S3.tr S7) (Ji3<|g2_0.stp<|S3.tr S7) (Ji3<|g2_1.stp<|S3.tr S7) hx10) ?_
 rintro _ w13 ⟨k14,rfl,e15⟩
 obtain⟨K16,S17,m18⟩:=Ji e15 4 R
 refine Tv<|Jb 2 R<|Ju<|Ja2 (l:=[.tmp 6]) V16 (Jp2 R R) R ?_
 cases h
 exact⟨K16,R,(hE.stp<|T3 S3 S7 S17)⟩
end Go.Proofs.YtleekpaohfpooaaGreat
