/- The walks, part 2. By program. -/
import Derived.Test.YtleekpaohfpooaaGreatFns0KE
import Derived.Test.YtleekpaohfpooaaGreatFns1KE
set_option linter.unusedVariables false
set_option linter.unusedSimpArgs false
open Go.IntKind renaming wrap → yC
open Sum renaming inr → yD, inl → yE
open Int renaming toNat → yG
namespace Go.Proofs.YtleekpaohfpooaaGreat
open Go Go.Wk Go.Proofs
set_option maxRecDepth 100000
set_option maxHeartbeats 1000000
variable {w:World}{κ:Col}
theorem mb {p0:Sig}{bd bc bb be}{p1:Det}(g1_0:Rd (Rp.sl (Rp.int .i64)) κ w 0 bd bc p1.Next) (g1_1:Rd Pair.rp κ w 0 bb be p1.Pairs){r:Arena×(List Pair)}(h:eF p0 p1=some r):Ret Tryz.prog 42 [.agg #[vi p0.In,vi p0.Out],.agg #[.slice bd p1.Next.length bc,.slice bb p1.Pairs.length be]] w (λv w'=>∃(κ':Col) (ra0:Option Addr) (ru0:Nat) (ra1:Option Addr) (ru1:Nat) (ra2:Option Addr) (ru2:Nat),v= .tuple #[.agg #[.slice ra0 r.1.Owner.length ru0,.slice ra1 r.1.Next.length ru1],.slice ra2 r.2.length ru2]/\Ent κ w κ' w'/\Oc E6 2 κ' w' 2 ra0 ru0 r.1.Owner/\Oc (Ep.own E6 2) 37 κ' w' 3 ra1 ru1 r.1.Next/\Oc Pair.ep127 127 κ' w' 4 ra2 ru2 r.2):=by
 unfold eF at h
 refine Jk3 κ F42 R N42 R λhE=>Je [1,1,1,2] R<|Js3 (κ:=κ) 2 R λb2 w1 K2 S3 f4=>Tv<|Js3 (κ:=K2) 3 R λb3 w5 K6 S7 f8=>Tv<|Jt3 (κ:=K6) 4 R X75 R λb4 w9 K10 S11 f12=>Tv<|Jb 1 R<|Je [2,1,1] R<|Jf R (bK (parts:=[]) (cells:=[.slice none 0 0,.slice none 0 0]) R R (by kernel_rfl))<|Jt3 (κ:=K10) 5 R X75 R λb6 w13 K14 S15 f16=>Tv<|Jv3 (κ:=K14) 5 (vc:=[.slice none 0 0,.slice none 0 0]) R Z75 R f16 R λw17 S18 f19=>Tv<|Jd<|Jq<|Js1 (κ:=K14) [2,3] none [(0,2),(1,0),(2,2),(3,0),(4,1),(5,2),(6,2)] [] (by kernel_rfl) (by kernel_rfl) λw21 S20=>Jd3 R U71 R Z31 ?_
 have f22:=f8.stp (T4 S11 S15 S18 S20)
 refine Jg R (Jc2 I31 R R<|hvC (f22.ld 0 R R) R)<|Jn3 R U31 R R ?_
 have f23:=f4.stp (T5 S7 S11 S15 S18 S20)
 refine Jg R (Jc4 (haC f23.cells R) I28 Z28 R)<|Ob h λx24 hx24 h=>Jr3 R C46 (fZ (κ:=Mk K14) (p0:=p0) hx24) ?_
 rintro _ w24 ⟨k25,rfl,e26⟩
 obtain⟨K27,S28,m29⟩:=Ji e26 6 R
 refine⟨(S28.cl R),Jn 2 R<|Jt1<|Jd<|Jq<|Je3 R ?_⟩
 have hN31:(p1.Next.length:Int)<=9223372036854775807:=g1_0.len_le
 refine Ob h λq2 hq33 hK32=>?_
 clear h
 refine Jo3 [2,3,4,6,7,8] (λE L w'=>∃κ',∃s3:(List Int)×(List<|List Int),∃aN au aM aC,L=E/\Stp [5,8,9,10,12] K27 w24 κ' w'/\Oc E6 2 κ' w' 8 aN au s3.1/\Oc (Ep.own E6 2) 37 κ' w' 9 aM aC s3.2/\Bc κ' w' 5 b6 75 [.slice aN s3.1.length au,.slice aM s3.2.length aC]/\q2=yD s3) ?_ ?_
 refine Jv<|Jp3 [2,3,4,6,7,8,25] (λk E L w'=>∃κ' v26,∃s1:(List Int)×(List<|List Int),∃av ap ad ao,L=(26,vi v26)::E/\Stp [5,8,9,10,12] K27 w24 κ' w'/\Oc E6 2 κ' w' 8 av ap s1.1/\Oc (Ep.own E6 2) 37 κ' w' 9 ad ao s1.2/\Bc κ' w' 5 b6 75 [.slice av s1.1.length ap,.slice ad s1.2.length ao]/\0<=v26/\yG ((p1.Next.length:Int)-v26)=k/\cntM (ey p1 x24) k v26 s1=some q2) ⟨_,_,⟨K27,0,((([]:List Int):(List Int)),(([]:List (List Int)):(List<|List Int))),none,0,none,0,R,Jj3,Ow.nil,Ow.nil,(f19.stp<|S20.tr S28),(by decide),(by simp),hq33⟩,(KM R)⟩ ?_
 rintro k _ w40 ⟨K41,v26,s1,av,ap,ad,ao,rfl,S42,f43,f44,f45,hj31,hJ31,h⟩
 rcases k with _ | k
 have hk47:=h;obtain⟨o31,h⟩:=bT (yD (yE s1):(Arena×(List Pair))⊕(((List Int)×(List (List Int)))⊕((List Int)×(List (List Int)))))
 have hc31:decide (v26<(p1.Next.length:Int))=false:=Jo2 (by omega)
 refine Je3 R<|Jq<|Jw2 R hc31<|Jc1<|Jt<|Jt ?_
 cases h
 have h:=hk47
 refine Jb1 ?_
 cases h
 exact Jw1 _ ⟨K41,(s1.1,s1.2),av,ap,ad,ao,R,S42.wk R,f43,f44,f45,R⟩<|KM R
 obtain⟨o31,h,hk47⟩:=BI h;unfold ey at h
 have hc31:decide (v26<(p1.Next.length:Int))=true:=Jn2 (by omega)
 refine Je3 R<|Jq<|Jv2 R hc31<|Js<|Jp<|Jq<|Jv<|Je3 R<|Je [1,2] R<|Jx3 (κ:=K41) (E:=E6) 10 R Y37 bG R λbl bf w48 K49 S50 f51=>Tv<|Jb 1 R<|Jq<|Je3 R<|Ob h λ_ hr52 h=>?_
 have hN52:=jo hr52
 refine Ob h λq5 hq54 hK53=>?_
 clear h
 refine Jo3 [2,3,4,6,7,8,25,26] (λE L w'=>∃κ',∃s6:(List Int),∃af ai,L=(10,.slice af s6.length ai)::E/\Stp [10] K49 w48 κ' w'/\Oc E6 2 κ' w' 10 af ai s6/\q5=yD s6) ?_ ?_
 refine Jv<|Jp3 [2,3,4,6,7,8,9,25,26,30] (λk E L w'=>∃κ' v31,∃s4:(List Int),∃aw aL,L=(10,.slice aw s4.length aL)::(31,vi v31)::E/\Stp [10] K49 w48 κ' w'/\Oc E6 2 κ' w' 10 aw aL s4/\0<=v31/\yG (x24-v31)=k/\cntM (ed p1 x24 v26) k v31 s4=some q5) ⟨_,_,⟨K49,0,(([]:List Int):(List Int)),bl,bf,R,Jj3,f51,(by decide),(by simp),hq54⟩,(KM R)⟩ ?_
 rintro k _ w59 ⟨K60,v31,s4,aw,aL,rfl,S61,f62,hj52,hJ52,h⟩
 rcases k with _ | k
 have hk63:=h;obtain⟨o52,h⟩:=bT (yD (yE s4):(Arena×(List Pair))⊕(((List Int))⊕((List Int))))
 have hc52:decide (v31<x24)=false:=Jo2 (by omega)
 refine Je3 R<|Jq<|Jw2 R hc52<|Jc1<|Jt<|Jt ?_
 cases h
 have h:=hk63
 refine Jb1 ?_
 cases h
 exact Jw1 _ ⟨K60,s4,aw,aL,R,S61.wk R,f62,R⟩<|KM R
 obtain⟨o52,h,hk63⟩:=BI h;unfold ed at h
 have hc52:decide (v31<x24)=true:=Jn2 (by omega)
 refine Je3 R<|Jq<|Jv2 R hc52<|Js<|Jp<|Jq<|Jv<|Je3 R<|Jh3 [2,2,2,2,2,2,2,2,1,1,2] 8 R<|Jw3 (κ:=K60) (E:=E6) 11 [] (parts:=[(0,.tmp 41)]) (cells:=[vi<|IntKind.i64.wrap ((IntKind.i64.wrap ((p1.Next.length:Int)+(IntKind.i64.wrap<|v26 * x24)))+v31)]) (xs:=([(IntKind.i64.wrap ((IntKind.i64.wrap ((p1.Next.length:Int)+(IntKind.i64.wrap<|v26 * x24)))+v31))]:List Int)) R Y37 bG R ⟨[vi<|IntKind.i64.wrap ((IntKind.i64.wrap ((p1.Next.length:Int)+(IntKind.i64.wrap<|v26 * x24)))+v31)],[],Zl K60 w59 [],Zl K60 w59 [],R,Zl.sp (l1:=[]) (l2:=[]) R,Zl.sr (l1:=[]) (l2:=[]),R,R⟩ λbr bs w64 K65 S66 f67=>Tv<|Ob h λx43 hx43 h=>Jy3 (κ:=K65) (E:=E6) 10 [] R Y37 bG R (f62.stp S66) (Sl.srcP (bP _) f67.rdc) bI hx43 R λbn bp w69 K70 S71 f72=>Tv<|Jc 1 R<|Jz<|Jp<|Jf3 R ?_
 have hw52:yC .i64 (v31+1)=v31+1:=wr1 hj52 (Jm2 hc52) hN52
 rw[hw52]
 have hc52:=Jm2 hc52
 cases h
 exact Jz1 λa ha=>⟨k,_,Ja3 _,⟨K70,v31+1,x43,bn,bp,R,(T3 S61 S66 S71).wk R,f72,by omega,by omega,hk63⟩,(ha.mm R)⟩
 rintro _ w55 ⟨K56,s6,af,ai,rfl,S57,f58,rfl⟩
 have h:=yI hK53
 refine Jp<|Je [2,1,1,1,2,1] R<|Jd3 R U75 R Z37 ?_
 have f73:=f45.stp (S50.tr S57)
 refine Jb3 R I37 (f73.ld 0 R R)<|Jw3 (κ:=K56) (E:=E6) 11 [] (parts:=[(0,.const (vi 1))]) (cells:=[vi 1]) (xs:=([1]:List Int)) R Y37 bG R ⟨[vi 1],[],Zl K56 w55 [],Zl K56 w55 [],R,Zl.sp (l1:=[]) (l2:=[]) R,Zl.sr (l1:=[]) (l2:=[]),R,R⟩ λbt bA w74 K75 S76 f77=>Tv<|Ob h λx48 hx48 h=>Jy3 (κ:=K75) (E:=E6) 8 [] R Y37 bG R (f43.stp<|T3 S50 S57 S76) (Sl.srcP (bP _) f77.rdc) bI hx48 R λaB aJ w79 K80 S81 f82=>Tv<|Jd3 R U75 R Z37<|Ju3 (κ:=K80) 5 (off:=0) (vc:=[.slice aB x48.length aJ]) (cs':=[.slice aB x48.length aJ,.slice ad s1.2.length ao]) R Z37 R (f73.stp<|S76.tr S81) R λw84 S85 f86=>Tv<|Jd<|Ja [2,1,2,1,1,2,1] R<|Jd3 R U75 R Z31<|Jb3 R I31 (f86.ld 1 R R)<|Jn 1 R<|Jw3 (κ:=K80) (E:=(Ep.own E6 2)) 12 [10] (parts:=[(0,.tmp 52)]) (cells:=[.slice af s6.length ai]) (xs:=([s6]:List (List Int))) R Y31 bQ R ⟨[.slice af s6.length ai],[],Zl K80 w84 [10],Zl K80 w84 [],R,Zl.sp (l1:=[10]) (l2:=[]) R,Zl.sr (l1:=[10]) (l2:=[]),⟨_,_,R,(f58.stp<|T3 S76 S81 S85)⟩,R⟩ λbz bw w88 K89 S90 f91=>Tv<|Ob h λx54 hx54 h=>Jy3 (κ:=K89) (E:=(Ep.own E6 2)) 9 [12] R Y31 bQ R (f44.stp<|T6 S50 S57 S76 S81 S85 S90) f91.src (dE R) hx54 R λaU aQ w93 K94 S95 f96=>Tv<|Jd3 R U75 R Z31<|Ju3 (κ:=K94) 5 (off:=1) (vc:=[.slice aU x54.length aQ]) (cs':=[.slice aB x48.length aJ,.slice aU x54.length aQ]) R Z31 R (f86.stp<|S90.tr S95) R λw98 S99 f100=>Tv<|Jo<|Jz<|Jp<|Jf3 R ?_
 have hw31:yC .i64 (v26+1)=v26+1:=wr1 hj31 (Jm2 hc31) hN31
 rw[hw31]
 have hc31:=Jm2 hc31
 cases h
 exact Jz1 λa ha=>⟨k,_,Ja3 _,⟨K94,v26+1,(x48,x54),aB,aJ,aU,aQ,R,(T9 S42 S50 S57 S76 S81 S85 S90 S95 S99).wk R,(f82.stp<|T4 S85 S90 S95 S99),(f96.stp S99),f100,by omega,by omega,hk47⟩,(ha.mm R)⟩
 rintro _ w34 ⟨K35,s3,aN,au,aM,aC,rfl,S36,f37,f38,f39,rfl⟩
 have h:=yI hK32
 refine Jp<|Jq<|Je3 R ?_
 have hN103:(p1.Next.length:Int)<=9223372036854775807:=g1_0.len_le
 refine Ob h λq8 hq105 hK104=>?_
 clear h
 refine Jo3 [3,4,6] (λE L w'=>∃κ',∃s9:(List Int)×(List<|List Int),∃ah aa ab am,L=E/\Stp [5,8,9,10,13,17,18] K35 w34 κ' w'/\Oc E6 2 κ' w' 8 ah aa s9.1/\Oc (Ep.own E6 2) 37 κ' w' 9 ab am s9.2/\Bc κ' w' 5 b6 75 [.slice ah s9.1.length aa,.slice ab s9.2.length am]/\q8=yD s9) ?_ ?_
 refine Jv<|Jp3 [2,3,4,6,8,57] (λk E L w'=>∃κ' v58,∃s7:(List Int)×(List<|List Int),∃al ac ae ak,L=(58,vi v58)::E/\Stp [5,8,9,10,13,17,18] K35 w34 κ' w'/\Oc E6 2 κ' w' 8 al ac s7.1/\Oc (Ep.own E6 2) 37 κ' w' 9 ae ak s7.2/\Bc κ' w' 5 b6 75 [.slice al s7.1.length ac,.slice ae s7.2.length ak]/\0<=v58/\yG ((p1.Next.length:Int)-v58)=k/\cntM (dZ p0 p1 x24) k v58 s7=some q8) ⟨_,_,⟨K35,0,(s3.1,s3.2),aN,au,aM,aC,R,Jj3,f37,f38,f39,(by decide),(by simp),hq105⟩,(KM R)⟩ ?_
 rintro k _ w112 ⟨K113,v58,s7,al,ac,ae,ak,rfl,S114,f115,f116,f117,hj103,hJ103,h⟩
 rcases k with _ | k
 have hk118:=h;obtain⟨o103,h⟩:=bT (yD (yE s7):(Arena×(List Pair))⊕(((List Int)×(List (List Int)))⊕((List Int)×(List (List Int)))))
 have hc103:decide (v58<(p1.Next.length:Int))=false:=Jo2 (by omega)
 refine Je3 R<|Jq<|Jw2 R hc103<|Jc1<|Jt<|Jt ?_
 cases h
 have h:=hk118
 refine Jb1 ?_
 cases h
 exact Jw1 _ ⟨K113,(s7.1,s7.2),al,ac,ae,ak,R,S114.wk R,f115,f116,f117,R⟩<|KM R
 obtain⟨o103,h,hk118⟩:=BI h;unfold dZ at h
 have hc103:decide (v58<(p1.Next.length:Int))=true:=Jn2 (by omega)
 refine Je3 R<|Jq<|Jv2 R hc103<|Js<|Jp<|Jq<|Jv<|Je3 R<|Je3 R<|Ob h λ_ hr119 h=>?_
 have hN119:=jo hr119
 refine Ob h λq11 hq121 hK120=>?_
 clear h
 refine Jo3 [2,3,4,6,8,57,58] (λE L w'=>∃κ',∃s12:(List Int)×(List<|List Int),∃az aG aq ax,L=E/\Stp [5,8,9,10,13,17,18] K113 w112 κ' w'/\Oc E6 2 κ' w' 8 az aG s12.1/\Oc (Ep.own E6 2) 37 κ' w' 9 aq ax s12.2/\Bc κ' w' 5 b6 75 [.slice az s12.1.length aG,.slice aq s12.2.length ax]/\q11=yD s12) ?_ ?_
 refine Jv<|Jp3 [2,3,4,6,8,12,57,58,61] (λk E L w'=>∃κ' v62,∃s10:(List Int)×(List<|List Int),∃ay aH aj an,L=(62,vi v62)::E/\Stp [5,8,9,10,13,17,18] K113 w112 κ' w'/\Oc E6 2 κ' w' 8 ay aH s10.1/\Oc (Ep.own E6 2) 37 κ' w' 9 aj an s10.2/\Bc κ' w' 5 b6 75 [.slice ay s10.1.length aH,.slice aj s10.2.length an]/\0<=v62/\yG (x24-v62)=k/\cntM (dY p0 p1 x24 v58) k v62 s10=some q11) ⟨_,_,⟨K113,0,(s7.1,s7.2),al,ac,ae,ak,R,Jj3,f115,f116,f117,(by decide),(by simp),hq121⟩,(KM R)⟩ ?_
 rintro k _ w128 ⟨K129,v62,s10,ay,aH,aj,an,rfl,S130,f131,f132,f133,hj119,hJ119,h⟩
 rcases k with _ | k
 have hk134:=h;obtain⟨o119,h⟩:=bT (yD (yE s10):(Arena×(List Pair))⊕(((List Int)×(List (List Int)))⊕((List Int)×(List (List Int)))))
 have hc119:decide (v62<x24)=false:=Jo2 (by omega)
 refine Je3 R<|Jq<|Jw2 R hc119<|Jc1<|Jt<|Jt ?_
 cases h
 have h:=hk134
 refine Jb1 ?_
 cases h
 exact Jw1 _ ⟨K129,(s10.1,s10.2),ay,aH,aj,an,R,S130.wk R,f131,f132,f133,R⟩<|KM R
 obtain⟨o119,h,hk134⟩:=BI h;unfold dY at h
 have hc119:decide (v62<x24)=true:=Jn2 (by omega)
 refine Je3 R<|Jq<|Jv2 R hc119<|Js<|Jp<|Jq<|Jv<|Je3 R<|Je [1,2] R<|Jx3 (κ:=K129) (E:=E6) 10 R Y37 bG R λbm bg w135 K136 S137 f138=>Tv<|Jb 1 R<|Jq<|Je [2,1,2,2] R<|Jd3 R U28 R Z2<|Jb3 R I2 ((f23.stp<|T5 S28 S36 S114 S130 S137).ld 1 R R)<|Ob h λ_z68 hz68 h=>Jf R (qZ R R R<|uv hz68)<|Jb 1 R<|Ob h λ_ hr140 h=>?_
 have hN140:=jo hr140
 refine Ob h λq14 hq142 hK141=>?_
 clear h
 refine Jo3 [2,3,4,6,8,12,57,58,61,62] (λE L w'=>∃κ',∃s15:(List Int),∃aR aW,L=(14,.slice aR s15.length aW)::E/\Stp [10] K136 w135 κ' w'/\Oc E6 2 κ' w' 10 aR aW s15/\q14=yD s15) ?_ ?_
 refine Jv<|Jp3 [2,3,4,6,8,12,13,57,58,61,62,68] (λk E L w'=>∃κ' v69,∃s13:(List Int),∃aO aI,L=(14,.slice aO s13.length aI)::(69,vi v69)::E/\Stp [10] K136 w135 κ' w'/\Oc E6 2 κ' w' 10 aO aI s13/\0<=v69/\yG ((IntKind.i64.wrap (1 * 2 ^ (min (yG p0.Out)<|IntKind.bits IntKind.i64)))-v69)=k/\cntM (d7 p1 x24 v58 v62) k v69 s13=some q14) ⟨_,_,⟨K136,0,(([]:List Int):(List Int)),bm,bg,R,Jj3,f138,(by decide),(by simp),hq142⟩,(KM R)⟩ ?_
 rintro k _ w147 ⟨K148,v69,s13,aO,aI,rfl,S149,f150,hj140,hJ140,h⟩
 rcases k with _ | k
 have hk151:=h;obtain⟨o140,h⟩:=bT (yD (yE s13):(Arena×(List Pair))⊕(((List Int))⊕((List Int))))
 have hc140:decide (v69<(IntKind.i64.wrap (1 * 2 ^ (min (yG p0.Out) (IntKind.bits IntKind.i64)))))=false:=Jo2 (by omega)
 refine Je3 R<|Jq<|Jw2 R hc140<|Jc1<|Jt<|Jt ?_
 cases h
 have h:=hk151
 refine Jb1 ?_
 cases h
 exact Jw1 _ ⟨K148,s13,aO,aI,R,S149.wk R,f150,R⟩<|KM R
 obtain⟨o140,h,hk151⟩:=BI h;unfold d7 at h
 have hc140:decide (v69<(IntKind.i64.wrap (1 * 2 ^ (min (yG p0.Out) (IntKind.bits IntKind.i64)))))=true:=Jn2 (by omega)
 refine Je3 R<|Jq<|Jv2 R hc140<|Js<|Jp<|Jq<|Jv<|Je3 R<|Jh3 [2,2,1,2,2,1,2,2,2,2,2,2,1,1,1,2] 1 R<|Jd3 R U71 R Z31<|Jb3 R I31 ((f22.stp<|T6 S28 S36 S114 S130 S137 S149).ld 0 R R)<|Jn 1 R<|Ob h λx76 hx76 h=>Jc3 R g1_0 hx76 U31 Z37 ?_
 obtain⟨ax76,ux76,f154,hl155⟩:=(g1_0.stp (T12 S3 S7 S11 S15 S18 S20 S28 S36 S114 S130 S137 S149)).gSl hx76
 refine Jb3 R I37 hl155<|Jn 5 R<|Ob h λx83 hx83 h=>Jc3 R f154 hx83 U37 Z2<|Jb3 R I2 (f154.gInt hx83)<|Jw3 (κ:=K148) (E:=E6) 11 [] (parts:=[(0,.tmp 84)]) (cells:=[vi x83]) (xs:=([x83]:List Int)) R Y37 bG R ⟨[vi x83],[],Zl K148 w147 [],Zl K148 w147 [],R,Zl.sp (l1:=[]) (l2:=[]) R,Zl.sr (l1:=[]) (l2:=[]),R,R⟩ λbD bB w156 K157 S158 f159=>Tv<|Ob h λx86 hx86 h=>Jy3 (κ:=K157) (E:=E6) 10 [] R Y37 bG R (f150.stp S158) (Sl.srcP (bP _) f159.rdc) bI hx86 R λbq bo w161 K162 S163 f164=>Tv<|Jc 1 R<|Jz<|Jp<|Jf3 R ?_
 have hw140:yC .i64 (v69+1)=v69+1:=wr1 hj140 (Jm2 hc140) hN140
 rw[hw140]
 have hc140:=Jm2 hc140
 cases h
 exact Jz1 λa ha=>⟨k,_,Ja3 _,⟨K162,v69+1,x86,bq,bo,R,(T3 S149 S158 S163).wk R,f164,by omega,by omega,hk151⟩,(ha.mm R)⟩
 rintro _ w143 ⟨K144,s15,aR,aW,rfl,S145,f146,rfl⟩
 have h:=yI hK141
 refine Jp<|Jg3 [2,1] 1 R<|Ob h λx89 hx89 h=>Jr3 R C106 (gR (κ:=λb=>mp [(10,2)] 0<|K144 b) (f146.map (mp [(10,2)] 0) R R) hx89) ?_
 rintro _ w165 ⟨k166,rfl,e167,f168,hn169⟩
 obtain⟨K170,S171,m172⟩:=Ji e167 11 R
 refine Tv<|Jd<|Je [2,1,1,1,2,1] R<|Jd3 R U75 R Z37 ?_
 have f175:=f133.stp (T3 S137 S145 S171)
 refine Jb3 R I37 (f175.ld 0 R R)<|Jw3 (κ:=K170) (E:=E6) 14 [] (parts:=[(0,.const (vi 0))]) (cells:=[vi 0]) (xs:=([0]:List Int)) R Y37 bG R ⟨[vi 0],[],Zl K170 w165 [],Zl K170 w165 [],R,Zl.sp (l1:=[]) (l2:=[]) R,Zl.sr (l1:=[]) (l2:=[]),R,R⟩ λbC bF w176 K177 S178 f179=>Tv<|Ob h λx93 hx93 h=>Jy3 (κ:=K177) (E:=E6) 8 [] R Y37 bG R (f131.stp<|T4 S137 S145 S171 S178) (Sl.srcP (bP _) f179.rdc) bI hx93 R λaD aA w181 K182 S183 f184=>Tv<|Jd3 R U75 R Z37<|Ju3 (κ:=K182) 5 (off:=0) (vc:=[.slice aD x93.length aA]) (cs':=[.slice aD x93.length aA,.slice aj s10.2.length an]) R Z37 R (f175.stp<|S178.tr S183) R λw186 S187 f188=>Tv<|Jd<|Js1 (κ:=K182) [5] (some 7) [(0,2),(2,2),(1,0),(3,1),(4,1),(5,1),(6,2)] [(7,1)] (by kernel_rfl) (by kernel_rfl) λw190 S189=>Jd3 R U75 R Z31<|Jn 1 R ?_
 have f191:=f188.stp S189
 refine Jg R (Jc2 I31 R R<|hvC (f191.ld 1 R R) R)<|Ob h λx98 hx98 h=>Jr3 R C107 (Ret.cast (by simp only[(hn169),List.cons_append,List.nil_append])<|ke (κ:=λb=>mp [(13,2)] 0<|K182 b) (((f168.mx (bL _) m172 R (R:11+2=13)).stp (T4 S178 S183 S187 S189)).map (mp [(13,2)] 0) R R) hx98) ?_
 rintro _ w193 ⟨k194,aZ,ba,rfl,e195,f196⟩
 obtain⟨K197,S198,m199⟩:=Ji e195 15 R
 refine⟨(S198.cl R),Jw3 (κ:=K197) (E:=(Ep.own E6 2)) 18 [17] (parts:=[(0,.tmp 98)]) (cells:=[.slice aZ x98.length ba]) (xs:=([x98]:List (List Int))) R Y31 bQ R ⟨[.slice aZ x98.length ba],[],Zl K197 w193 [17],Zl K197 w193 [],R,Zl.sp (l1:=[17]) (l2:=[]) R,Zl.sr (l1:=[17]) (l2:=[]),⟨_,_,R,(f196.mx (bL _) m199 R (R:15+2=17))⟩,R⟩ λbE bx w202 K203 S204 f205=>⟨((S198.tr S204).cl R),Ob h λx100 hx100 h=>Jy3 (κ:=K203) (E:=(Ep.own E6 2)) 9 [18] R Y31 bQ R (f132.stp<|T9 S137 S145 S171 S178 S183 S187 S189 S198 S204) f205.src (dE R) hx100 R λaV aX w207 K208 S209 f210=>⟨((T3 S198 S204 S209).cl R),Jd3 R U75 R Z31<|Jt1<|Ju3 (κ:=K208) 5 (off:=1) (vc:=[.slice aV x100.length aX]) (cs':=[.slice aD x93.length aA,.slice aV x100.length aX]) R Z31 R (f191.stp<|T3 S198 S204 S209) R λw212 S213 f214=>Tv<|Jo<|Jz<|Jp<|Jf3 R ?_⟩⟩⟩
 have hw119:yC .i64 (v62+1)=v62+1:=wr1 hj119 (Jm2 hc119) hN119
 rw[hw119]
 have hc119:=Jm2 hc119
 cases h
 exact Jz1 λa ha=>⟨k,_,Ja3 _,⟨K208,v62+1,(x93,x100),aD,aA,aV,aX,R,(T12 S130 S137 S145 S171 S178 S183 S187 S189 S198 S204 S209 S213).wk R,(f184.stp<|T6 S187 S189 S198 S204 S209 S213),(f210.stp S213),f214,by omega,by omega,hk134⟩,(ha.mm R)⟩
 rintro _ w122 ⟨K123,s12,az,aG,aq,ax,rfl,S124,f125,f126,f127,rfl⟩
 have h:=yI hK120
 refine Jz<|Jp<|Jf3 R ?_
 have hw103:yC .i64 (v58+1)=v58+1:=wr1 hj103 (Jm2 hc103) hN103
 rw[hw103]
 have hc103:=Jm2 hc103
 cases h
 exact Jz1 λa ha=>⟨k,_,Ja3 _,⟨K123,v58+1,(s12.1,s12.2),az,aG,aq,ax,R,(S114.tr S124).wk R,f125,f126,f127,by omega,by omega,hk118⟩,(ha.mm R)⟩
 rintro _ w106 ⟨K107,s9,ah,aa,ab,am,rfl,S108,f109,f110,f111,rfl⟩
 have h:=yI hK104
 refine Jp<|Je [1,2] R<|Jx3 (κ:=K107) (E:=Pair.ep127) 10 R Y69 cw R λbj bi w217 K218 S219 f220=>Tv<|Jb 1 R<|Jq<|Je [2,1,2,2] R<|Jd3 R U71 R Z69<|Jb3 R I69 ((f22.stp<|T4 S28 S36 S108 S219).ld 1 R R)<|Jn3 R U69 R R<|Jb 1 R ?_
 have hN222:(p1.Pairs.length:Int)<=9223372036854775807:=g1_1.len_le
 refine Ob h λq17 hq224 hK223=>?_
 clear h
 refine Jo3 [4,6] (λE L w'=>∃κ',∃s18:(List Pair),∃aF aK,L=(16,.slice aF s18.length aK)::E/\Stp [10,11,14,15,16] K218 w217 κ' w'/\Oc Pair.ep127 127 κ' w' 10 aF aK s18/\q17=yD s18) ?_ ?_
 refine Jv<|Jp3 [4,6,106,107] (λk E L w'=>∃κ' v108,∃s16:(List Pair),∃aE ar,L=(16,.slice aE s16.length ar)::(108,vi v108)::E/\Stp [10,11,14,15,16] K218 w217 κ' w'/\Oc Pair.ep127 127 κ' w' 10 aE ar s16/\0<=v108/\yG ((p1.Pairs.length:Int)-v108)=k/\cntM (dG p1) k v108 s16=some q17) ⟨_,_,⟨K218,0,(([]:List Pair):(List Pair)),bj,bi,R,Jj3,f220,(by decide),(by simp),hq224⟩,(KM R)⟩ ?_
 rintro k _ w229 ⟨K230,v108,s16,aE,ar,rfl,S231,f232,hj222,hJ222,h⟩
 rcases k with _ | k
 have hk233:=h;obtain⟨o222,h⟩:=bT (yD (yE s16):(Arena×(List Pair))⊕(((List Pair))⊕((List Pair))))
 have hc222:decide (v108<(p1.Pairs.length:Int))=false:=Jo2 (by omega)
 refine Je3 R<|Jq<|Jw2 R hc222<|Jc1<|Jt<|Jt ?_
 cases h
 have h:=hk233
 refine Jb1 ?_
 cases h
 exact Jw1 _ ⟨K230,s16,aE,ar,R,S231.wk R,f232,R⟩<|KM R
 obtain⟨o222,h,hk233⟩:=BI h;unfold dG at h
 have hc222:decide (v108<(p1.Pairs.length:Int))=true:=Jn2 (by omega)
 refine Je3 R<|Jq<|Jv2 R hc222<|Js<|Jp<|Jq<|Jv<|Je [2,1,1,1] R<|Ob h λx110 hx110 h=>Jc3 R g1_1 hx110 U69 Z127 ?_
 obtain⟨cse235,hre235,hle235⟩:=((g1_1.stp (T11 S3 S7 S11 S15 S18 S20 S28 S36 S108 S219 S231))).gSt hx110
 obtain⟨ae235_0,ue235_0,ae235_1,ue235_1,rfl,fe235_0,fe235_1⟩:=Pair.un hre235
 refine Jb4 tv R (Jc4 (haE hle235) I127 Z127 R)<|Jt3 (κ:=K230) 11 R X127 R λb18 w236 K237 S238 f239=>Tv<|Jv3 (κ:=K237) 11 (vc:=[.slice ae235_0 x110.Ask.length ue235_0,.slice ae235_1 x110.Give.length ue235_1]) R Z127 R f239 R λw240 S241 f242=>Tv<|Jd<|Jh3 [2,1,1,1,1,2] 1 R<|Jb4 tv R (Jc4 (haE f242.cells) I127 Z127 R)<|Ob h λx114 hx114 h=>Jr3 R C108 (qv (κ:=Mk K237) (p0:=x110) (Ji3<|fe235_0.stp<|S238.tr S241) (Ji3<|fe235_1.stp<|S238.tr S241) hx114) ?_
 rintro _ w245 ⟨k246,aS,aY,aP,aT,rfl,e247,f248,f249⟩
 obtain⟨K250,S251,m252⟩:=Ji e247 12 R
 refine Tv<|Jw3 (κ:=K250) (E:=Pair.ep127) 16 [14,15] (parts:=[(0,.tmp 114)]) (cells:=[.slice aS x114.Ask.length aY,.slice aP x114.Give.length aT]) (xs:=([x114]:List Pair)) R Y69 cw R ⟨[.slice aS x114.Ask.length aY,.slice aP x114.Give.length aT],[],Zl K250 w245 [14,15],Zl K250 w245 [],R,Zl.sp (l1:=[14,15]) (l2:=[]) R,Zl.sr (l1:=[14,15]) (l2:=[]),⟨[.slice aS x114.Ask.length aY],[.slice aP x114.Give.length aT],Zl K250 w245 [14],Zl K250 w245 [15],R,Zl.sp (l1:=[14]) (l2:=[15]) R,Zl.sr (l1:=[14]) (l2:=[15]),⟨_,_,R,(f248.mx (bL _) m252 R (R:12+2=14))⟩,⟨_,_,R,(f249.mx (bL _) m252 R (R:12+3=15))⟩⟩,R⟩ λbv bu w256 K257 S258 f259=>Tv<|Ob h λx116 hx116 h=>Jy3 (κ:=K257) (E:=Pair.ep127) 10 [16] R Y69 cw R (f232.stp<|T4 S238 S241 S251 S258) f259.src (dE R) hx116 R λbh bk w261 K262 S263 f264=>Tv<|Jc 1 R<|Jz<|Jp<|Jf3 R ?_
 have hw222:yC .i64 (v108+1)=v108+1:=wr1 hj222 (Jm2 hc222) hN222
 rw[hw222]
 have hc222:=Jm2 hc222
 cases h
 exact Jz1 λa ha=>⟨k,_,Ja3 _,⟨K262,v108+1,x116,bh,bk,R,(T6 S231 S238 S241 S251 S258 S263).wk R,f264,by omega,by omega,hk233⟩,(ha.mm R)⟩
 rintro _ w225 ⟨K226,s18,aF,aK,rfl,S227,f228,rfl⟩
 have h:=yI hK223
 refine Jp<|Je [1,2,1,2] R<|Jb4 tv R (Jc4 (haE (f111.stp<|S219.tr S227).cells) I75 Z75 R)<|Jn 1 R<|Jv3 (κ:=K226) 4 (vc:=[.slice ah s9.1.length aa,.slice ab s9.2.length am]) R Z75 R (f12.stp<|T8 S15 S18 S20 S28 S36 S108 S219 S227) R λw267 S268 f269=>Tv<|Jb 1 R<|Ju<|Ja2 (l:=[.cell 4 75,.tmp 5]) V42 (bM R f269 I75 Z75 R<|Jp2 R R) R ?_
 cases h
 have S001:=(T3 S219 S227 S268)
 exact⟨(λb=>ren [(8,2),(9,3),(10,4)]<|K226 b),ah,aa,ab,am,aF,aK,R,((hE.stp<|T12 S3 S7 S11 S15 S18 S20 S28 S36 S108 S219 S227 S268).map (ren [(8,2),(9,3),(10,4)]) R R),((f109.stp S001).map (ren [(8,2),(9,3),(10,4)]) R R),((f110.stp S001).map (ren [(8,2),(9,3),(10,4)]) R R),((f228.stp S268).map (ren [(8,2),(9,3),(10,4)]) R R)⟩
theorem pD {ab aa}{p0:Place}{c0:Int}{a2 u2}{c1:(List Int)}{b1 b2}(g0_1:Rd (Rp.int .i64) κ w 0 ab aa p0.Record) (g2:Rd (Rp.int .i64) κ w 0 a2 u2 c1) (gb1:Bc κ w 0 b1 2 [vi c0]) (gb2:Bc κ w 0 b2 37 [.slice a2 c1.length u2]){r:Bool}(h:ji p0 c0 c1=some r):Ret Tryz.prog 242 [.agg #[vi p0.At,.slice ab p0.Record.length aa],.pointer (some ⟨b1,0,none⟩),.pointer (some ⟨b2,0,none⟩)] w (Pvb κ w r):=by
 unfold ji at h
 refine Jk3 κ F242 R N242 R λhE=>Je [1,2] R<|Js3 (κ:=κ) 2 R λb3 w1 K2 S3 f4=>Tv<|Jb 1 R<|Je [2,1,1,2,2,2,1,1,1,2,2] R<|Jd3 R U88 R Z2<|Jb3 R I2 (f4.ld 0 R R)<|Jb3 R I2 ((gb1.stp S3).ld 0 R R)<|Jn 2 R<|Ob h λp14 h hK6=>Jq3 [1,2,4] (λE L w'=>L=(14,.bool p14)::E/\∃κ',Stp [] K2 w1 κ' w') [(5,2),(6,1),(7,1),(8,1),(9,2)] [(10,2)] tv ?_ ?_
 revert h
 cases ht7:(p0.At==c0)
 refine JF λh=>Jn 1 R<|Jz3 R<|Jz3 R<|Jz3 R<|Jn 1 R ?_
 cases h
 exact Jv1 _ tv ⟨R,_,Jj3⟩<|KM R
 refine JT λh=>Jd3 R U88 R Z37<|Jb3 R I37 (f4.ld 1 R R)<|Jb3 R I37 ((gb2.stp S3).ld 0 R R)<|Ob h λx13 hx13 h=>Jr3 R C160 (kM (κ:=Mk K2) (Ji3<|g0_1.stp S3) (Ji3<|g2.stp S3) hx13) ?_
 rintro _ w11 ⟨k12,rfl,e13⟩
 obtain⟨K14,S15,m16⟩:=Ji e13 3 R
 refine Tv<|Jn 1 R ?_
 cases h
 exact Jv1 _ tv ⟨R,_,S15.wk R⟩<|KM R
 rintro _ w18 _ ⟨rfl,K19,S20⟩
 have h:=hK6
 refine Jb 1 R<|Ju<|Ja2 (l:=[.tmp 4]) V242 (Jp2 R R) R ?_
 cases h
 exact⟨K19,R,(hE.stp<|S3.tr S20)⟩
theorem oe {p0:Int}{a1 u1}{c0:(List Place)}{c1:Int}{c2:Int}{c3:Sig}{c4:Int}{b1 b2 b3 b4 b5}(g1:Rd Place.rp κ w 0 a1 u1 c0) (gb1:Bc κ w 0 b1 80 [.slice a1 c0.length u1]) (gb2:Bc κ w 0 b2 2 [vi c1]) (gb3:Bc κ w 0 b3 2 [vi c2]) (gb4:Bc κ w 0 b4 28 [vi c3.In,vi c3.Out]) (gb5:Bc κ w 0 b5 2 [vi c4]){r:Bool}(h:gn p0 c0 c1 c2 c3 c4=some r):Ret Tryz.prog 48 [vi p0,.pointer (some ⟨b1,0,none⟩),.pointer (some ⟨b2,0,none⟩),.pointer (some ⟨b3,0,none⟩),.pointer (some ⟨b4,0,none⟩),.pointer (some ⟨b5,0,none⟩)] w (Pvb κ w r):=by
 unfold gn at h
 refine Jk3 κ F48 R N48 R λhE=>Je3 R<|Jq<|Js1 (κ:=κ) [0] none [(1,2),(0,0),(2,2),(3,2),(4,0),(5,0),(6,0),(7,0),(11,0),(8,1),(9,2),(10,2),(12,2),(13,2),(14,2)] [] (by kernel_rfl) (by kernel_rfl) λw2 S1=>Jn 1 R<|Jg R (Jc2 I80 R R<|hvC ((gb1.stp S1).ld 0 R R) R)<|Ob h λx10 hx10 h=>Jc3 R g1 hx10 U80 Z88<|Jd3 R U88 R Z2 ?_
 obtain⟨cse5,hre5,hle5⟩:=((g1.stp S1)).gSt hx10
 obtain⟨ae5_0,ue5_0,rfl,fe5_0⟩:=Place.un hre5
 refine Jg R (Jc2 I2 R R<|hvC (λw' hw'=>hle5 w' hw' 0 _ R) R)<|Jg R (Jc2 I2 R R<|hvC ((gb2.stp S1).ld 0 R R) R)<|Jg R (Jc2 I2 R R<|hvC ((gb3.stp S1).ld 0 R R) R)<|Jg R (Jc4 (haC (gb4.stp S1).cells R) I28 Z28 R)<|Jg R (Jc2 I2 R R<|hvC ((gb5.stp S1).ld 0 R R) R)<|Ob h λx16 hx16 h=>Jr3 R C46 (fZ (κ:=Mk κ) (p0:=c3) hx16) ?_
 rintro _ w10 ⟨k11,rfl,e12⟩
 obtain⟨K13,S14,m15⟩:=Ji e12 2 R
 refine⟨(S14.cl R),Jn 5 R<|Jt1<|Jd<|Ju<|Ja2 (l:=[.tmp 7]) V48 (Jp2 R R) R ?_⟩
 cases h
 exact⟨K13,R,(hE.stp<|S1.tr S14)⟩
theorem eA {a0 u0}{p0:(List Int)}{c1_0:Int}{b1_0}(g0:Rd (Rp.int .i64) κ w 0 a0 u0 p0) (gb1_0:Bc κ w 0 b1_0 2 [vi c1_0]){r:Int}(h:cg p0 c1_0=some r):Ret Tryz.prog 47 [.slice a0 p0.length u0,.func (.func 217) #[] #[.pointer (some ⟨b1_0,0,none⟩)]] w (Pvi κ w r):=by
 unfold cg at h
 refine Jk3 κ F47 R N47 R λhE=>Je3 R<|Jq<|Jg3 [2,2,2] 1 R<|Jn3 R U37 R R<|Jb 1 R ?_
 have hN1:(p0.length:Int)<=9223372036854775807:=g0.len_le
 refine Ob h λq2 hq3 hK2=>?_
 clear h
 refine Jo3 [1] (λE L w'=>∃κ',L=E/\Stp [] κ w κ' w'/\q2=yD ()) ?_ ?_
 refine Jv<|Jp3 [0,1,7] (λk E L w'=>∃κ' v8,L=(8,vi v8)::E/\Stp [] κ w κ' w'/\0<=v8/\yG ((p0.length:Int)-v8)=k/\cntM (cc p0 c1_0) k v8 ()=some q2) ⟨_,_,⟨κ,0,R,Jj3,(by decide),(by simp),hq3⟩,(KM R)⟩ ?_
 rintro k _ w7 ⟨K8,v8,rfl,S9,hj1,hJ1,h⟩
 rcases k with _ | k
 have hk10:=h;obtain⟨o1,h⟩:=bT (yD (yE ()):Int⊕((Unit)⊕(Unit)))
 have hc1:decide (v8<(p0.length:Int))=false:=Jo2 (by omega)
 refine Je3 R<|Jq<|Jw2 R hc1<|Jc1<|Jt<|Jt ?_
 cases h
 have h:=hk10
 refine Jb1 ?_
 cases h
 exact Jw1 _ ⟨K8,R,S9.wk R,R⟩<|KM R
 obtain⟨o1,h,hk10⟩:=BI h;unfold cc at h
 have hc1:decide (v8<(p0.length:Int))=true:=Jn2 (by omega)
 refine Je3 R<|Jq<|Jv2 R hc1<|Js<|Jp<|Jq<|Jv<|Je3 R<|Jg3 [2,2,2,2,1,1] 3 R<|Ob h λx14 hx14 h=>Jc3 R g0 hx14 U37 Z2<|Jb3 R I2 ((g0.stp S9).gInt hx14)<|Ob h λx16 hx16 h=>WO.callV R R R R R R R R C217 (n0 (κ:=Mk K8) ((gb1_0.stp S9).map (mp [] 0) R R) hx16) ?_
 rintro _ w13 ⟨k14,rfl,e15⟩
 obtain⟨K16,S17,m18⟩:=Ji e15 2 R
 refine Tv<|Jd ?_
 revert h
 cases ht20:x16
 refine JF λh=>Jy R<|Js<|Jz<|Jp<|Jf3 R ?_
 have hw1:yC .i64 (v8+1)=v8+1:=wr1 hj1 (Jm2 hc1) hN1
 rw[hw1]
 have hc1:=Jm2 hc1
 cases h
 exact Jz1 λa ha=>⟨k,_,Ja3 _,⟨K16,v8+1,R,(S9.tr S17).wk R,by omega,by omega,hk10⟩,(ha.mm R)⟩
 refine JT λh=>Jx R<|Je3 R<|Ju<|Ja1<|Jw<|Jw ?_
 cases h
 obtain rfl:=Option.some.inj hk10
 have h:=yL hK2
 refine Ja1<|Jq2<|Jw<|Ja2 (l:=[.tmp 4]) V47 (Jp2 R R) R ?_
 cases h
 exact⟨K16,R,(hE.stp<|S9.tr S17)⟩
 rintro _ w4 ⟨K5,rfl,S6,rfl⟩
 have h:=yI hK2
 refine Jp<|Je3 R<|Ju<|Ja2 (l:=[.tmp 4]) V47 (Jp2 R R) R ?_
 cases h
 exact⟨K5,R,(hE.stp S6)⟩
theorem gz {p0:Sig}  {r:Bool}(h:ia p0=some r):Ret Tryz.prog 58 [.agg #[vi p0.In,vi p0.Out]] w (Pvb κ w r):=by
 unfold ia at h
 refine Jk3 κ F58 R N58 R λhE=>Je [1,2] R<|Js3 (κ:=κ) 2 R λb1 w1 K2 S3 f4=>Tv<|Jb 1 R<|Je [2,1,1,2,2,1,1,2,2] R<|Jd3 R U28 R Z2<|Jb3 R I2 (f4.ld 0 R R)<|Ob h λx5 hx5 h=>Jr3 R C59 (cX (κ:=Mk K2) hx5) ?_
 rintro _ w5 ⟨k6,rfl,e7⟩
 obtain⟨K8,S9,m10⟩:=Ji e7 3 R
 refine Tv<|Jn 1 R<|Ob h λp10 h hK12=>Jq3 [2] (λE L w'=>L=(10,.bool p10)::E/\∃κ',Stp [] K8 w5 κ' w') [(4,2),(5,1),(6,1),(7,2)] [(8,2)] tv ?_ ?_
 revert h
 cases ht13:x5
 refine JF λh=>Jn 1 R<|Jz3 R<|Jz3 R<|Jn 1 R ?_
 cases h
 exact Jv1 _ tv ⟨R,_,Jj3⟩<|KM R
 refine JT λh=>Jd3 R U28 R Z2<|Jb3 R I2 ((f4.stp S9).ld 1 R R)<|Ob h λx9 hx9 h=>Jr3 R C59 (cX (κ:=Mk K8) hx9) ?_
 rintro _ w15 ⟨k16,rfl,e17⟩
 obtain⟨K18,S19,m20⟩:=Ji e17 5 R
 refine Tv<|Jn 1 R ?_
 cases h
 exact Jv1 _ tv ⟨R,_,S19.wk R⟩<|KM R
 rintro _ w22 _ ⟨rfl,K23,S24⟩
 have h:=hK12
 refine Jb 1 R<|Ju<|Ja2 (l:=[.tmp 2]) V58 (Jp2 R R) R ?_
 cases h
 exact⟨K23,R,(hE.stp<|T3 S3 S9 S24)⟩
theorem qX {a0 u0}{p0:(List Int)}{p1:Int}(g0:Rd (Rp.int .i64) κ w 0 a0 u0 p0){r:Bool}(h:kY p0 p1=some r):Ret Tryz.prog 215 [.slice a0 p0.length u0,vi p1] w (Pvb κ w r):=by
 unfold kY at h
 refine Jk3 κ F215 R N215 R λhE=>Je3 R<|Jq<|Je3 R ?_
 have hN1:(p0.length:Int)<=9223372036854775807:=g0.len_le
 refine Ob h λq2 hq3 hK2=>?_
 clear h
 refine Jx1 (λL w'=>∃κ',L=[]/\Stp [] κ w κ' w'/\q2=yD ()) ?_ ?_
 refine Jv<|Jp3 [0,1] (λk E L w'=>∃κ' v5,L=(5,vi v5)::E/\Stp [] κ w κ' w'/\0<=v5/\yG ((p0.length:Int)-v5)=k/\cntM (ib p0 p1) k v5 ()=some q2) ⟨_,_,⟨κ,0,R,Jj3,(by decide),(by simp),hq3⟩,(KM R)⟩ ?_
 rintro k _ w7 ⟨K8,v5,rfl,S9,hj1,hJ1,h⟩
 rcases k with _ | k
 have hk10:=h;obtain⟨o1,h⟩:=bT (yD (yE ()):Bool⊕((Unit)⊕(Unit)))
 have hc1:decide (v5<(p0.length:Int))=false:=Jo2 (by omega)
 refine Jq<|Jg3 [2,2,2,2] 2 R<|Jn3 R U37 R R<|Jb 1 R<|Jw2 R hc1<|Jc1<|Jt<|Jt ?_
 cases h
 have h:=hk10
 refine Jb1 ?_
 cases h
 exact Jw1 _ ⟨K8,R,S9.wk R,R⟩ KN
 obtain⟨o1,h,hk10⟩:=BI h;unfold ib at h
 have hc1:decide (v5<(p0.length:Int))=true:=Jn2 (by omega)
 refine Jq<|Jg3 [2,2,2,2] 2 R<|Jn3 R U37 R R<|Jb 1 R<|Jv2 R hc1<|Js<|Jp<|Jq<|Jv<|Jq<|Js1 (κ:=K8) [0] none [(0,2),(1,2),(2,2),(4,2),(5,2),(3,0),(6,1),(7,2),(8,2),(9,2),(10,2),(11,2),(12,2),(13,2),(14,2),(16,2),(17,2),(18,2),(19,2),(15,0),(20,0),(21,2),(22,2),(23,2)] [] (by kernel_rfl) (by kernel_rfl) λw12 S11=>Jn 2 R<|Ob h λx14 hx14 h=>Jc3 R g0 hx14 U37 Z2<|Jn 2 R ?_
 have f13:=g0.stp (S9.tr S11)
 refine Jg R (Jc2 I2 R R<|hvC (f13.gInt hx14) R)<|Ob h λx18 hx18 h=>Jr3 R C59 (cX (κ:=Mk K8) hx18) ?_
 rintro _ w14 ⟨k15,rfl,e16⟩
 obtain⟨K17,S18,m19⟩:=Ji e16 2 R
 refine⟨(S18.cl R),Jn 2 R<|Ob h λp35 h hK21=>Jq3 [0,1,5] (λE L w'=>L=(35,.bool p35)::E/\∃κ',Stp [] K17 w14 κ' w') [(9,2),(10,2),(11,2),(12,2),(13,2),(14,2),(16,2),(17,2),(18,2),(19,2),(15,0),(20,0),(21,2),(22,2),(23,2)] [] (S18.cl R) ?_ ?_⟩
 revert h
 cases ht22:(!x18)
 refine JF λh=>Jn 3 R<|Ob h λp34 h hK23=>Jq3 [0,1,5,20,21,22,23] (λE L w'=>L=(34,.bool p34)::E/\∃κ',Stp [] K17 w14 κ' w') [(12,2),(13,2),(14,2),(16,2),(17,2),(18,2),(19,2),(15,0),(20,0),(21,2),(22,2)] [(23,2)] (S18.cl R) ?_ ?_
 revert h
 cases ht24:decide (0<v5)
 refine JF λh=>Jn 7 R<|Ja4 R<|Ja4 R<|Jn 2 R ?_
 cases h
 exact Jv1 _ (S18.cl R) ⟨R,_,Jj3⟩<|KM R
 refine JT λh=>Jn 2 R<|Ob h λx26 hx26 h=>Jc3 R f13 hx26 U37 Z2<|Jn 3 R<|Ob h λx31 hx31 h=>Jc3 R f13 hx31 U37 Z2<|Jg R (Jc2 I2 R R<|hvC (f13.gInt hx26) R)<|Jg R (Jc2 I2 R R<|hvC (f13.gInt hx31) R)<|Jn 2 R ?_
 cases h
 exact Jv1 _ (S18.cl R) ⟨R,_,Jj3⟩<|KM R
 rintro _ w25 _ ⟨rfl,K26,S27⟩
 have h:=hK23
 refine Jn 1 R ?_
 cases h
 exact Jv1 _ ((S18.tr S27).cl R) ⟨R,_,S27.wk R⟩<|KM R
 refine JT λh=>Jn 10 R<|Ja4 R<|Ja4 R<|Jn 3 R ?_
 cases h
 exact Jv1 _ (S18.cl R) ⟨R,_,Jj3⟩<|KM R
 rintro _ w28 _ ⟨rfl,K29,S30⟩
 have h:=hK21
 refine Jt1<|Jd ?_
 revert h
 cases ht31:p35
 refine JF λh=>Jy R<|Js<|Jz<|Jp<|Jf3 R ?_
 have hw1:yC .i64 (v5+1)=v5+1:=wr1 hj1 (Jm2 hc1) hN1
 rw[hw1]
 have hc1:=Jm2 hc1
 cases h
 exact Jz1 λa ha=>⟨k,_,Ja3 _,⟨K29,v5+1,R,(T4 S9 S11 S18 S30).wk R,by omega,by omega,hk10⟩,(ha.mm R)⟩
 refine JT λh=>Jx R<|Je3 R<|Ju<|Ja1<|Jw<|Jw ?_
 cases h
 obtain rfl:=Option.some.inj hk10
 have h:=yL hK2
 refine Ja1<|Jq2<|Jw<|Ja2 (l:=[.tmp 4]) V215 (Jp2 R R) R ?_
 cases h
 exact⟨K29,R,(hE.stp<|T4 S9 S11 S18 S30)⟩
 rintro _ w4 ⟨K5,rfl,S6,rfl⟩
 have h:=yI hK2
 refine Jp<|Je3 R<|Ju<|Ja2 (l:=[.tmp 4]) V215 (Jp2 R R) R ?_
 cases h
 exact⟨K5,R,(hE.stp S6)⟩
theorem rK {ad aa ab ac}{p0:Clause}{p1:Int}{p2:Int}(g0_1:Rd (Rp.int .i64) κ w 0 ad aa p0.A) (g0_2:Rd (Rp.int .i64) κ w 0 ab ac p0.B){r:Int}(h:kG p0 p1 p2=some r):Ret Tryz.prog 189 [.agg #[vi p0.Kind,.slice ad p0.A.length aa,.slice ab p0.B.length ac],vi p1,vi p2] w (Pvi κ w r):=by
 unfold kG at h
 refine Jk3 κ F189 R N189 R λhE=>Je [1,2] R<|Js3 (κ:=κ) 2 R λb3 w1 K2 S3 f4=>Tv<|Jb 1 R<|Je [2,1,2,1,1,2] R<|Jd3 R U67 R Z37<|Jb3 R I37 (f4.ld 1 R R)<|Jn 1 R<|Ob h λx12 hx12 h=>Jr3 R C81 (dK (κ:=Mk K2) (Ji3<|g0_1.stp S3) hx12) ?_
 rintro _ w6 ⟨k7,rfl,e8⟩
 obtain⟨K9,S10,m11⟩:=Ji e8 3 R
 refine Tv<|Ob h λx13 hx13 h=>Jr3 R C192 (lW (κ:=Mk K9) hx13) ?_
 rintro _ w13 ⟨k14,rfl,e15⟩
 obtain⟨K16,S17,m18⟩:=Ji e15 5 R
 refine Tv<|Jb 1 R<|Je [2,1,2,1,1,2] R<|Jd3 R U67 R Z37 ?_
 have f20:=f4.stp (S10.tr S17)
 refine Jb3 R I37 (f20.ld 2 R R)<|Jn 1 R<|Ob h λx17 hx17 h=>Jr3 R C81 (dK (κ:=Mk K16) (Ji3<|g0_2.stp<|T3 S3 S10 S17) hx17) ?_
 rintro _ w22 ⟨k23,rfl,e24⟩
 obtain⟨K25,S26,m27⟩:=Ji e24 7 R
 refine Tv<|Ob h λx18 hx18 h=>Jr3 R C192 (lW (κ:=Mk K25) hx18) ?_
 rintro _ w29 ⟨k30,rfl,e31⟩
 obtain⟨K32,S33,m34⟩:=Ji e31 9 R
 refine Tv<|Jb 1 R<|Jq<|Je [2,1] R<|Jd3 R U67 R Z2<|Jb3 R I2 ((f20.stp<|S26.tr S33).ld 0 R R)<|Jd<|Jv<|Je3 R ?_
 revert h
 cases ht37:(p0.Kind==1)
 refine JF λh=>Jy R<|Je3 R ?_
 revert h
 cases ht46:(p0.Kind==2)
 refine JF λh=>Jy R<|Je3 R ?_
 revert h
 cases ht60:(p0.Kind==3)
 refine JF λh=>Jy R<|Je3 R ?_
 revert h
 cases ht71:(p0.Kind==4)
 refine JF λh=>Jy R<|Je3 R ?_
 revert h
 cases ht73:(p0.Kind==5)
 refine JF λh=>Jy R<|Je3 R ?_
 revert h
 cases ht75:(p0.Kind==6)
 refine JF λh=>Jy R<|Js<|Jz<|Jp<|Je3 R<|Ju<|Ja2 (l:=[.tmp 6]) V189 (Jp2 R R) R ?_
 cases h
 exact⟨K32,R,(hE.stp<|T5 S3 S10 S17 S26 S33)⟩
 refine JT λh=>Jx R<|Jg3 [2,2,1,2] 2 R<|Ob h λx58 hx58 h=>Jr3 R C247 (lI (κ:=Mk K32) hx58) ?_
 rintro _ w76 ⟨k77,rfl,e78⟩
 obtain⟨K79,S80,m81⟩:=Ji e78 11 R
 refine Tv<|Jb 1 R<|Ju<|Ja1<|Jw<|Ja2 (l:=[.tmp 6]) V189 (Jp2 R R) R ?_
 cases h
 exact⟨K79,R,(hE.stp<|T6 S3 S10 S17 S26 S33 S80)⟩
 refine JT λh=>Jx R<|Je3 R<|Ju<|Ja1<|Jw<|Ja2 (l:=[.tmp 6]) V189 (Jp2 R R) R ?_
 cases h
 exact⟨K32,R,(hE.stp<|T5 S3 S10 S17 S26 S33)⟩
 refine JT λh=>Jx R<|Je3 R<|Ju<|Ja1<|Jw<|Ja2 (l:=[.tmp 6]) V189 (Jp2 R R) R ?_
 cases h
 exact⟨K32,R,(hE.stp<|T5 S3 S10 S17 S26 S33)⟩
 refine JT λh=>Jx R<|Jq<|Je3 R ?_
 revert h
 cases ht61:(x18==1)
 refine JF λh=>Jy R<|Js<|Jp<|Jg3 [2,2,1,2] 2 R<|Ob h λx46 hx46 h=>Jr3 R C247 (lI (κ:=Mk K32) hx46) ?_
 rintro _ w63 ⟨k64,rfl,e65⟩
 obtain⟨K66,S67,m68⟩:=Ji e65 11 R
 refine Tv<|Jb 1 R<|Ju<|Ja1<|Jw<|Ja2 (l:=[.tmp 6]) V189 (Jp2 R R) R ?_
 cases h
 exact⟨K66,R,(hE.stp<|T6 S3 S10 S17 S26 S33 S67)⟩
 refine JT λh=>Jx R<|Je3 R<|Ju<|Jw<|Ja1<|Jw<|Ja2 (l:=[.tmp 6]) V189 (Jp2 R R) R ?_
 cases h
 exact⟨K32,R,(hE.stp<|T5 S3 S10 S17 S26 S33)⟩
 refine JT λh=>Jx R<|Jq<|Jg3 [2,2,2,2,2,2,2,2,2,2] 3 R<|Ob h λp38 h hK47=>Jq3 [7] (λE L w'=>L=(38,.bool p38)::E/\∃κ',Stp [] K32 w29 κ' w') [(3,2),(4,2),(5,2),(6,2),(7,2),(8,2),(9,2)] [] tv ?_ ?_
 revert h
 cases ht48:(p1==2)
 refine JF λh=>Jn 3 R<|Ob h λp37 h hK49=>Jq3 [7,31] (λE L w'=>L=(37,.bool p37)::E/\∃κ',Stp [] K32 w29 κ' w') [(6,2),(7,2),(8,2)] [(9,2)] tv ?_ ?_
 revert h
 cases ht50:(p1==1)
 refine JF λh=>Jn 3 R ?_
 cases h
 exact Jv1 _ tv ⟨R,_,Jj3⟩<|KM R
 refine JT λh=>Jn 3 R ?_
 cases h
 exact Jv1 _ tv ⟨R,_,Jj3⟩<|KM R
 rintro _ w51 _ ⟨rfl,K52,S53⟩
 have h:=hK49
 refine Jn 1 R ?_
 cases h
 exact Jv1 _ tv ⟨R,_,S53.wk R⟩<|KM R
 refine JT λh=>Jn 7 R ?_
 cases h
 exact Jv1 _ tv ⟨R,_,Jj3⟩<|KM R
 rintro _ w54 _ ⟨rfl,K55,S56⟩
 have h:=hK47
 refine Jd ?_
 revert h
 cases ht57:p38
 refine JF λh=>Jy R<|Js<|Jp<|Je3 R<|Ju<|Ja1<|Jw<|Ja2 (l:=[.tmp 6]) V189 (Jp2 R R) R ?_
 cases h
 exact⟨K55,R,(hE.stp<|T6 S3 S10 S17 S26 S33 S56)⟩
 refine JT λh=>Jx R<|Je3 R<|Ju<|Jw<|Ja1<|Jw<|Ja2 (l:=[.tmp 6]) V189 (Jp2 R R) R ?_
 cases h
 exact⟨K55,R,(hE.stp<|T6 S3 S10 S17 S26 S33 S56)⟩
 refine JT λh=>Jx R<|Jg3 [2,2,2,1,2] 3 R<|Ob h λx26 hx26 h=>Jr3 R C247 (lI (κ:=Mk K32) hx26) ?_
 rintro _ w38 ⟨k39,rfl,e40⟩
 obtain⟨K41,S42,m43⟩:=Ji e40 11 R
 refine Tv<|Jb 1 R<|Ju<|Ja1<|Jw<|Ja2 (l:=[.tmp 6]) V189 (Jp2 R R) R ?_
 cases h
 exact⟨K41,R,(hE.stp<|T6 S3 S10 S17 S26 S33 S42)⟩
theorem eW {a0 u0}{p0:(List Int)}{p1:Int}(g0:Rd (Rp.int .i64) κ w 0 a0 u0 p0){r:Bool}(h:dS p0 p1=some r):Ret Tryz.prog 61 [.slice a0 p0.length u0,vi p1] w (Pvb κ w r):=by
 unfold dS at h
 refine Jk3 κ F61 R N61 R λhE=>Je3 R<|Jq<|Je3 R ?_
 have hN1:(p0.length:Int)<=9223372036854775807:=g0.len_le
 refine Ob h λq2 hq3 hK2=>?_
 clear h
 refine Jx1 (λL w'=>∃κ',L=[]/\Stp [] κ w κ' w'/\q2=yD ()) ?_ ?_
 refine Jv<|Jp3 [0,1] (λk E L w'=>∃κ' v5,L=(5,vi v5)::E/\Stp [] κ w κ' w'/\0<=v5/\yG ((p0.length:Int)-v5)=k/\cntM (gt p0 p1) k v5 ()=some q2) ⟨_,_,⟨κ,0,R,Jj3,(by decide),(by simp),hq3⟩,(KM R)⟩ ?_
 rintro k _ w7 ⟨K8,v5,rfl,S9,hj1,hJ1,h⟩
 rcases k with _ | k
 have hk10:=h;obtain⟨o1,h⟩:=bT (yD (yE ()):Bool⊕((Unit)⊕(Unit)))
 have hc1:decide (v5<(p0.length:Int))=false:=Jo2 (by omega)
 refine Jq<|Jg3 [2,2,2,2] 2 R<|Jn3 R U37 R R<|Jb 1 R<|Jw2 R hc1<|Jc1<|Jt<|Jt ?_
 cases h
 have h:=hk10
 refine Jb1 ?_
 cases h
 exact Jw1 _ ⟨K8,R,S9.wk R,R⟩ KN
 obtain⟨o1,h,hk10⟩:=BI h;unfold gt at h
 have hc1:decide (v5<(p0.length:Int))=true:=Jn2 (by omega)
 refine Jq<|Jg3 [2,2,2,2] 2 R<|Jn3 R U37 R R<|Jb 1 R<|Jv2 R hc1<|Js<|Jp<|Jq<|Jv<|Jg3 [2,2,2,1,2,2,1,2] 2 R<|Ob h λx14 hx14 h=>Jc3 R g0 hx14 U37 Z2<|Jb3 R I2 ((g0.stp S9).gInt hx14)<|Jn 2 R<|Ob h λx18 hx18 h=>Jr3 R C59 (cX (κ:=Mk K8) hx18) ?_
 rintro _ w12 ⟨k13,rfl,e14⟩
 obtain⟨K15,S16,m17⟩:=Ji e14 2 R
 refine Tv<|Jb 1 R ?_
 revert h
 cases ht19:(!x18)
 refine JF λh=>Jy R<|Js<|Jz<|Jp<|Jf3 R ?_
 have hw1:yC .i64 (v5+1)=v5+1:=wr1 hj1 (Jm2 hc1) hN1
 rw[hw1]
 have hc1:=Jm2 hc1
 cases h
 exact Jz1 λa ha=>⟨k,_,Ja3 _,⟨K15,v5+1,R,(S9.tr S16).wk R,by omega,by omega,hk10⟩,(ha.mm R)⟩
 refine JT λh=>Jx R<|Je3 R<|Ju<|Ja1<|Jw<|Jw ?_
 cases h
 obtain rfl:=Option.some.inj hk10
 have h:=yL hK2
 refine Ja1<|Jq2<|Jw<|Ja2 (l:=[.tmp 4]) V61 (Jp2 R R) R ?_
 cases h
 exact⟨K15,R,(hE.stp<|S9.tr S16)⟩
 rintro _ w4 ⟨K5,rfl,S6,rfl⟩
 have h:=yI hK2
 refine Jp<|Je3 R<|Ju<|Ja2 (l:=[.tmp 4]) V61 (Jp2 R R) R ?_
 cases h
 exact⟨K5,R,(hE.stp S6)⟩
theorem pZ {p0:Sig}  {r:Int}(h:iX p0=some r):Ret Tryz.prog 129 [.agg #[vi p0.In,vi p0.Out]] w (Pvi κ w r):=by
 unfold iX at h
 refine Jk3 κ F129 R N129 R λhE=>Je [1,2] R<|Js3 (κ:=κ) 2 R λb1 w1 K2 S3 f4=>Tv<|Jb 1 R<|Je [2,1,1,2] R<|Jd3 R U28 R Z2<|Jb3 R I2 (f4.ld 0 R R)<|Ob h λx5 hx5 h=>Jr3 R C62 (dq (κ:=Mk K2) hx5) ?_
 rintro _ w5 ⟨k6,rfl,e7⟩
 obtain⟨K8,S9,m10⟩:=Ji e7 3 R
 refine Tv<|Jb 1 R<|Ju<|Ja2 (l:=[.tmp 2]) V129 (Jp2 R R) R ?_
 cases h
 exact⟨K8,R,(hE.stp<|S3.tr S9)⟩
theorem sc {a0 u0}{p0:(List Int)}{p1:Int}(g0:Rd (Rp.int .i64) κ w 0 a0 u0 p0){r:(List Int)}(h:jc p0 p1=some r):Ret Tryz.prog 96 [.slice a0 p0.length u0,vi p1] w (λv w'=>∃(κ':Col) (ra0:Option Addr) (ru0:Nat),v= .slice ra0 r.length ru0/\Ent κ w κ' w'/\Rd (Rp.int .i64) κ' w' 0 ra0 ru0 r):=by
 unfold jc at h
 refine Jk3 κ F96 R N96 R λhE=>Je3 R<|Je3 R<|Jq<|Ob h λq2 hq3 hK2=>?_
 clear h
 refine Jo3 [0,1] (λE L w'=>∃κ' s3,L=(5,vi s3)::E/\Stp [] κ w κ' w'/\q2=yD s3) ?_ ?_
 refine Jv<|Jp3 [0,1] (λk E L w'=>∃κ' s1,L=(5,vi s1)::E/\Stp [] κ w κ' w'/\ca (fu p0 p1) k s1=some q2) ⟨_,_,⟨κ,(0:Int),R,Jj3,hq3⟩,(KM R)⟩ ?_
 rintro k _ w7 ⟨K8,s1,rfl,S9,h⟩
 rcases k with _ | k
 cases h
 obtain⟨o1,h,hk10⟩:=BI h;unfold fu at h
 refine Jq<|Jg3 [2,2,2,2,2,2,2,2,1,2,2,2] 2 R<|Jn3 R U37 R R<|Jn 2 R<|Ob h λp18 h hK11=>Jq3 [0,1,5] (λE L w'=>L=(18,.bool p18)::E/\∃κ',Stp [] K8 w7 κ' w') [(5,2),(6,2),(7,2),(8,1),(9,2),(10,2),(11,2)] [] tv ?_ ?_
 revert h
 cases ht12:decide (s1<(p0.length:Int))
 refine JF λh=>Jn 3 R<|Jz3 R<|Jn 3 R ?_
 cases h
 exact Jv1 _ tv ⟨R,_,Jj3⟩<|KM R
 refine JT λh=>Jn 2 R<|Ob h λx14 hx14 h=>Jc3 R g0 hx14 U37 Z2<|Jb3 R I2 ((g0.stp S9).gInt hx14)<|Jn 3 R ?_
 cases h
 exact Jv1 _ tv ⟨R,_,Jj3⟩<|KM R
 rintro _ w14 _ ⟨rfl,K15,S16⟩
 have h:=hK11
 refine Jd ?_
 revert h
 cases ht17:p18
 refine JF λh=>Jy R<|Jc1<|Jt<|Jt ?_
 cases h
 have h:=hk10
 refine Jb1 ?_
 cases h
 exact Jw1 _ ⟨K15,s1,R,(S9.tr S16).wk R,R⟩<|KM R
 refine JT λh=>Jx R<|Js<|Jp<|Jv<|Jf3 R<|Jz ?_
 cases h
 exact Jz1 λa ha=>⟨k,_,Ja3 _,⟨K15,((IntKind.i64.wrap<|s1+1):Int),R,(S9.tr S16).wk R,hk10⟩,(ha.mm R)⟩
 rintro _ w4 ⟨K5,s3,rfl,S6,rfl⟩
 have h:=yI hK2
 refine Jp<|Jq<|Jg3 [2,2,2,2,2,2,2,2,1,2,2,2] 2 R<|Jn3 R U37 R R<|Jn 2 R<|Ob h λp32 h hK18=>Jq3 [0,1,5] (λE L w'=>L=(32,.bool p32)::E/\∃κ',Stp [] K5 w4 κ' w') [(5,2),(6,2),(7,2),(8,1),(9,2),(10,2),(11,2)] [] tv ?_ ?_
 revert h
 cases ht19:decide (s3<(p0.length:Int))
 refine JF λh=>Jn 3 R<|Jz3 R<|Jn 3 R ?_
 cases h
 exact Jv1 _ tv ⟨R,_,Jj3⟩<|KM R
 refine JT λh=>Jn 2 R<|Ob h λx28 hx28 h=>Jc3 R g0 hx28 U37 Z2<|Jb3 R I2 ((g0.stp S6).gInt hx28)<|Jn 3 R ?_
 cases h
 exact Jv1 _ tv ⟨R,_,Jj3⟩<|KM R
 rintro _ w21 _ ⟨rfl,K22,S23⟩
 have h:=hK18
 refine Jd ?_
 revert h
 cases ht24:p32
 refine JF λh=>Jy R<|Js<|Jp<|Jg3 [2,2,2,1,2,1,1,2] 2 R<|Ob h λx36 hx36 h=>Jf R (kN (k1:= .i64) (k2:= .i64) U37 Z2 (.inl ⟨R,R⟩) (.inr ⟨_,R,R⟩) hx36 g0.1 R R R) ?_
 have f28:=g0.stp (S6.tr S23)
 refine Ob h λx37 hx37 h=>Jr3 R C131 (km (κ:=Mk K22) (Ji3<|f28.sub hx36) hx37) ?_
 rintro _ w29 ⟨k30,af,ai,rfl,e31,f32⟩
 obtain⟨K33,S34,m35⟩:=Ji e31 2 R
 refine Tv<|Jn 1 R<|Jw3 (κ:=K33) (E:=E6) 5 [] (parts:=[(0,.tmp 38)]) (cells:=[vi p1]) (xs:=([p1]:List Int)) R Y37 bG R ⟨[vi p1],[],Zl K33 w29 [],Zl K33 w29 [],R,Zl.sp (l1:=[]) (l2:=[]) R,Zl.sr (l1:=[]) (l2:=[]),R,R⟩ λah ae w38 K39 S40 f41=>Tv<|Ob h λx40 hx40 h=>Jy3 (κ:=K39) (E:=E6) 4 [] R Y37 bG R ((f32.mx (bL _) m35 R (R:2+2=4)).stp S40) (Sl.srcP (bP _) f41.rdc) bI hx40 R λac ad w43 K44 S45 f46=>Tv<|Jb 1 R<|Jg3 [2,2,2,2,1,2] 3 R<|Ob h λx44 hx44 h=>Jf R (kN (k1:= .i64) (k2:= .i64) U37 Z2 (.inr ⟨_,R,R⟩) (.inl ⟨R,R⟩) hx44 f28.1 R R R)<|Ob h λx45 hx45 h=>Jy3 (κ:=K44) (E:=E6) 4 [] R Y37 bG R f46 (Sl.srcP (bP _) ((f28.stp<|T3 S34 S40 S45).sub hx44)) bI hx45 R λab aa w49 K50 S51 f52=>Tv<|Jb 1 R<|Ju ?_
 obtain⟨K53,S54,z55⟩:=fV K50 w49 4
 refine Ja2 (l:=[.tmp 4]) V96 (Jp2 R R) R ?_
 cases h
 exact⟨K53,ab,aa,R,(hE.stp<|T7 S6 S23 S34 S40 S45 S51 S54),(Sl.st z55 f52.rdc)⟩
 refine JT λh=>Jx R<|Je3 R<|Ju<|Jw<|Ja2 (l:=[.tmp 4]) V96 (Jp2 R R) R ?_
 cases h
 exact⟨K22,a0,u0,R,(hE.stp<|S6.tr S23),(g0.stp<|S6.tr S23)⟩
theorem rS {a0 u0}{p0:(List Pair)}{a1 u1}{p1:(List Int)}{p2:Int}(g0:Rd Pair.rp κ w 0 a0 u0 p0) (g1:Rd (Rp.int .i64) κ w 0 a1 u1 p1){r:(List Int)}(h:iJ p0 p1 p2=some r):Ret Tryz.prog 134 [.slice a0 p0.length u0,.slice a1 p1.length u1,vi p2] w (Pvs E6 2 κ w r):=by
 unfold iJ at h
 refine Jk3 κ F134 R N134 R λhE=>Je3 R<|Je [1,2] R<|Jx3 (κ:=κ) (E:=E6) 2 R Y37 bG R λau ap w1 K2 S3 f4=>Tv<|Jb 1 R<|Je [1,2] R<|Jx3 (κ:=K2) (E:=E6) 3 R Y37 bG R λar ay w5 K6 S7 f8=>Tv<|Jb 1 R<|Jq<|Je3 R ?_
 have hN9:(p1.length:Int)<=9223372036854775807:=g1.len_le
 refine Ob h λq2 hq11 hK10=>?_
 clear h
 refine Jx1 (λL w'=>∃κ',∃s3:(List Int)×(List Int),∃ak al aj am,L=[(7,.slice ak s3.1.length al),(8,.slice aj s3.2.length am)]/\Stp [2,3] K6 w5 κ' w'/\Oc E6 2 κ' w' 2 ak al s3.1/\Oc E6 2 κ' w' 3 aj am s3.2/\q2=yD s3) ?_ ?_
 refine Jv<|Jp3 [0,1,2] (λk E L w'=>∃κ' v9,∃s1:(List Int)×(List Int),∃ab aa ac ad,L=(7,.slice ab s1.1.length aa)::(8,.slice ac s1.2.length ad)::(9,vi v9)::E/\Stp [2,3] K6 w5 κ' w'/\Oc E6 2 κ' w' 2 ab aa s1.1/\Oc E6 2 κ' w' 3 ac ad s1.2/\0<=v9/\yG ((p1.length:Int)-v9)=k/\cntM (eJ p0 p1 p2) k v9 s1=some q2) ⟨_,_,⟨K6,0,((([]:List Int):(List Int)),(([]:List Int):(List Int))),au,ap,ar,ay,R,Jj3,(f4.stp S7),f8,(by decide),(by simp),hq11⟩,(KM R)⟩ ?_
 rintro k _ w17 ⟨K18,v9,s1,ab,aa,ac,ad,rfl,S19,f20,f21,hj9,hJ9,h⟩
 rcases k with _ | k
 have hk23:=h;obtain⟨o9,h⟩:=bT (yD (yE s1):(List Int)⊕(((List Int)×(List Int))⊕((List Int)×(List Int))))
 have hc9:decide (v9<(p1.length:Int))=false:=Jo2 (by omega)
 refine Jq<|Jg3 [2,2,2,2] 2 R<|Jn3 R U37 R R<|Jb 1 R<|Jw2 R hc9<|Jc1<|Jt<|Jt ?_
 cases h
 have h:=hk23
 refine Jb1 ?_
 cases h
 exact Jw1 _ ⟨K18,(s1.1,s1.2),ab,aa,ac,ad,R,S19.wk R,f20,f21,R⟩<|KM R
 obtain⟨o9,h,hk23⟩:=BI h;unfold eJ at h
 have hc9:decide (v9<(p1.length:Int))=true:=Jn2 (by omega)
 refine Jq<|Jg3 [2,2,2,2] 2 R<|Jn3 R U37 R R<|Jb 1 R<|Jv2 R hc9<|Js<|Jp<|Jq<|Jv<|Jg3 [2,2,2,2,1,2,2,1,2,1] 3 R<|Ob h λx21 hx21 h=>Jc3 R g1 hx21 U37 Z2 ?_
 have f24:=g1.stp (T3 S3 S7 S19)
 refine Jb3 R I2 (f24.gInt hx21)<|Ob h λx23 hx23 h=>Jc3 R g0 hx23 U69 Z127<|Jd3 R U127 R Z37 ?_
 obtain⟨cse26,hre26,hle26⟩:=((g0.stp (T3 S3 S7 S19))).gSt hx23
 obtain⟨ae26_0,ue26_0,ae26_1,ue26_1,rfl,fe26_0,fe26_1⟩:=Pair.un hre26
 refine Jb3 R I37 (λw' hw'=>hle26 w' hw' 1 _ R)<|Jn 1 R<|Ob h λx27 hx27 h=>Jr3 R C197 (mA (κ:=Mk K18) (Ji3 fe26_1) hx27) ?_
 rintro _ w27 ⟨k28,rfl,e29⟩
 obtain⟨K30,S31,m32⟩:=Ji e29 4 R
 refine Tv<|Jd<|Ob h λq4 h hK34=>Jo3 [0,1,2,9] (λE L w'=>∃κ' ai ae af ah,L=(7,.slice ai q4.1.length ae)::(8,.slice af q4.2.length ah)::E/\Stp [2,3] K30 w27 κ' w'/\Oc E6 2 κ' w' 2 ai ae q4.1/\Oc E6 2 κ' w' 3 af ah q4.2) ?_ ?_
 revert h
 cases ht40:x27
 refine JF λh=>Jy R<|Jh3 [2,2,2,2,1,1,1,2] 3 R<|Ob h λx38 hx38 h=>Jc3 R f24 hx38 U37 Z2<|Jb3 R I2 ((f24.stp S31).gInt hx38)<|Jw3 (κ:=K30) (E:=E6) 6 [] (parts:=[(0,.tmp 39)]) (cells:=[vi x38]) (xs:=([x38]:List Int)) R Y37 bG R ⟨[vi x38],[],Zl K30 w27 [],Zl K30 w27 [],R,Zl.sp (l1:=[]) (l2:=[]) R,Zl.sr (l1:=[]) (l2:=[]),R,R⟩ λaz aC w53 K54 S55 f56=>Tv<|Ob h λx41 hx41 h=>Jy3 (κ:=K54) (E:=E6) 3 [] R Y37 bG R (f21.stp<|S31.tr S55) (Sl.srcP (bP _) f56.rdc) bI hx41 R λaw an w58 K59 S60 f61=>Tv<|Jc 1 R ?_
 cases h
 exact Jw1 _ ⟨K59,ab,aa,aw,an,R,(S55.tr S60).wk R,(f20.stp<|T3 S31 S55 S60),f61⟩<|KM R
 refine JT λh=>Jx R<|Jh3 [2,2,2,2,1,1,1,2] 3 R<|Ob h λx31 hx31 h=>Jc3 R f24 hx31 U37 Z2<|Jb3 R I2 ((f24.stp S31).gInt hx31)<|Jw3 (κ:=K30) (E:=E6) 6 [] (parts:=[(0,.tmp 32)]) (cells:=[vi x31]) (xs:=([x31]:List Int)) R Y37 bG R ⟨[vi x31],[],Zl K30 w27 [],Zl K30 w27 [],R,Zl.sp (l1:=[]) (l2:=[]) R,Zl.sr (l1:=[]) (l2:=[]),R,R⟩ λaA aB w42 K43 S44 f45=>Tv<|Ob h λx34 hx34 h=>Jy3 (κ:=K43) (E:=E6) 2 [] R Y37 bG R (f20.stp<|S31.tr S44) (Sl.srcP (bP _) f45.rdc) bI hx34 R λax ao w47 K48 S49 f50=>Tv<|Jc 1 R ?_
 cases h
 exact Jw1 _ ⟨K48,ax,ao,ac,ad,R,(S44.tr S49).wk R,f50,(f21.stp<|T3 S31 S44 S49)⟩<|KM R
 rintro _ w35 ⟨K36,ai,ae,af,ah,rfl,S37,f38,f39⟩
 have h:=hK34
 refine Jz<|Jp<|Jf3 R ?_
 have hw9:yC .i64 (v9+1)=v9+1:=wr1 hj9 (Jm2 hc9) hN9
 rw[hw9]
 have hc9:=Jm2 hc9
 cases h
 exact Jz1 λa ha=>⟨k,_,Ja3 _,⟨K36,v9+1,(q4.1,q4.2),ai,ae,af,ah,R,(T3 S19 S31 S37).wk R,f38,f39,by omega,by omega,hk23⟩,(ha.mm R)⟩
 rintro _ w12 ⟨K13,s3,ak,al,aj,am,rfl,S14,f15,f16,rfl⟩
 have h:=yI hK10
 refine Jp<|Jg3 [2,2,1,2] 2 R<|Ob h λx44 hx44 h=>Jy3 (κ:=K13) (E:=E6) 2 [] R Y37 bG R f15 (Sl.srcP (bP _) f16.rdc) bI hx44 R λav aq w63 K64 S65 f66=>Tv<|Jb 1 R<|Ju<|Ja2 (l:=[.tmp 6]) V134 (Jp2 R R) R ?_
 cases h
 exact⟨K64,av,aq,R,(hE.stp<|T4 S3 S7 S14 S65),f66⟩
theorem tw {ac ab aa af ad ae}{p0:Parity}(g0_0_0:Rd (Rp.int .i64) κ w 0 ac ab p0.Arena.Owner) (g0_0_1:Rd (Rp.sl (Rp.int .i64)) κ w 0 aa af p0.Arena.Next) (g0_1:Rd (Rp.int .i64) κ w 0 ad ae p0.Prio){r:(List Int)}(h:mS p0=some r):Ret Tryz.prog 191 [.agg #[.slice ac p0.Arena.Owner.length ab,.slice aa p0.Arena.Next.length af,.slice ad p0.Prio.length ae]] w (Pvs E6 2 κ w r):=by
 unfold mS at h
 refine Jk3 κ F191 R N191 R λhE=>Je [1,2] R<|Js3 (κ:=κ) 2 R λb1 w1 K2 S3 f4=>Tv<|Jb 1 R<|Je [2,1,2,1,2] R<|Jd3 R U79 R Z37<|Jb3 R I37 (f4.ld 2 R R)<|Jn3 R U37 R R<|Ob h λx6 hx6 h=>Jr3 R C99 (tZ (κ:=Mk K2) hx6) ?_
 rintro _ w5 ⟨k6,ai,ah,rfl,e7,f8⟩
 obtain⟨K9,S10,m11⟩:=Ji e7 3 R
 refine Tv<|Jb 1 R<|Ju<|Ja2 (l:=[.tmp 2]) V191 (Jp2 R R) R ?_
 cases h
 exact⟨(λb=>ren [(5,2)]<|K9 b),ai,ah,R,((hE.stp<|S3.tr S10).map (ren [(5,2)]) R R),((f8.mx (bL _) m11 R (R:3+2=5)).map (ren [(5,2)]) R R)⟩
theorem nc {af ad ah ak aa ab ae ai ac aj}{p0:l7Game}{a1 u1}{p1:(List Bool)}{p2:Int}(g0_0:Rd (Rp.int .i64) κ w 0 af ad p0.owner) (g0_1:Rd (Rp.int .i64) κ w 0 ah ak p0.prio) (g0_2:Rd (Rp.sl (Rp.int .i64)) κ w 0 aa ab p0.next) (g0_3:Rd (Rp.sl (Rp.int .i64)) κ w 0 ae ai p0.prev) (g0_4:Rd (Rp.int .i64) κ w 0 ac aj p0.pick) (g1:Rd Rp.bool κ w 0 a1 u1 p1){r:Int}(h:gv p0 p1 p2=some r):Ret Tryz.prog 249 [.agg #[.slice af p0.owner.length ad,.slice ah p0.prio.length ak,.slice aa p0.next.length ab,.slice ae p0.prev.length ai,.slice ac p0.pick.length aj],.slice a1 p1.length u1,vi p2] w (Pvi κ w r):=by
 unfold gv at h
 refine Jk3 κ F249 R N249 R λhE=>Je [1,2] R<|Js3 (κ:=κ) 2 R λb3 w1 K2 S3 f4=>Tv<|Jb 1 R<|Je3 R<|Jq<|Je3 R<|Ob h λq2 hq7 hK6=>?_
 clear h
 refine Jx1 (λL w'=>∃κ',∃s3:Int×Int,L=[(7,vi s3.1)]/\Stp [] K2 w1 κ' w'/\q2=yD s3) ?_ ?_
 refine Jv<|Jp3 [1,2,3] (λk E L w'=>∃κ',∃s1:Int×Int,L=(7,vi s1.1)::(8,vi s1.2)::E/\Stp [] K2 w1 κ' w'/\ca (gg p0 p1 p2) k s1=some q2) ⟨_,_,⟨K2,((0:Int),(0:Int)),R,Jj3,hq7⟩,(KM R)⟩ ?_
 rintro k _ w11 ⟨K12,s1,rfl,S13,h⟩
 rcases k with _ | k
 cases h
 obtain⟨o5,h,hk14⟩:=BI h;unfold gg at h
 refine Jq<|Jg3 [2,2,1,2,2,1,2,2] 1 R<|Jd3 R U210 R Z31 ?_
 have f15:=f4.stp S13
 refine Jb3 R I31 (f15.ld 2 R R)<|Jn 1 R<|Ob h λx14 hx14 h=>Jc3 R g0_2 hx14 U31 Z37 ?_
 have f16:=g0_2.stp (S3.tr S13)
 obtain⟨ax14,ux14,f17,hl18⟩:=f16.gSl hx14
 refine Jb3 R I37 hl18<|Jn3 R U37 R R<|Jb 1 R ?_
 revert h
 cases ht19:decide (s1.2<(x14.length:Int))
 refine JF λh=>Jy R<|Jc1<|Jt<|Jt ?_
 cases h
 have h:=hk14
 refine Jb1 ?_
 cases h
 exact Jw1 _ ⟨K12,(s1.1,s1.2),R,S13.wk R,R⟩<|KM R
 refine JT λh=>Jx R<|Js<|Jp<|Jq<|Jv<|Je [2,1,2,2,1,2,2,1,2] R<|Jd3 R U210 R Z31<|Jb3 R I31 (f15.ld 2 R R)<|Jn 1 R<|Ob h λx23 hx23 h=>Jc3 R f16 hx23 U31 Z37 ?_
 obtain⟨ax23,ux23,f20,hl21⟩:=f16.gSl hx23
 refine Jb3 R I37 hl21<|Jn 1 R<|Ob h λx26 hx26 h=>Jc3 R f20 hx26 U37 Z2<|Jb3 R I2 (f20.gInt hx26)<|Jb 1 R<|Jg3 [2,2,2,1,2,1,2,2,1,2] 2 R<|Ob h λx30 hx30 h=>Jc3 R g1 hx30 U178 Z4<|Jb3 R I4 ((g1.stp<|S3.tr S13).gBool hx30)<|Jn 1 R<|Ob h λp37 h hK23=>Jq3 [1,2,3,7,8] (λE L w'=>L=(37,.bool p37)::E/\∃κ',Stp [] K12 w11 κ' w') [(5,1),(6,2),(7,2),(8,1),(9,2)] [] tv ?_ ?_
 revert h
 cases ht24:x30
 refine JF λh=>Jz3 R<|Jn 2 R<|Jz3 R<|Jn 1 R ?_
 cases h
 exact Jv1 _ tv ⟨R,_,Jj3⟩<|KM R
 have S001:=(S3.tr S13)
 refine JT λh=>Jb4 tv R (Jc4 (haE f15.cells) I210 Z210 R)<|Jn 2 R<|Ob h λx36 hx36 h=>Jr3 R C269 (oH (κ:=Mk K12) (p0:=p0) (Ji3<|g0_0.stp S001) (Ji3<|g0_1.stp S001) (Ji3 f16) (Ji3<|g0_3.stp S001) (Ji3<|g0_4.stp S001) hx36) ?_
 rintro _ w29 ⟨k30,rfl,e31⟩
 obtain⟨K32,S33,m34⟩:=Ji e31 3 R
 refine Tv<|Jn 1 R ?_
 cases h
 exact Jv1 _ tv ⟨R,_,S33.wk R⟩<|KM R
 rintro _ w36 _ ⟨rfl,K37,S38⟩
 have h:=hK23
 refine Jd<|Ob h λq4 h hK39=>Jo3 [1,2,3,8] (λE L w'=>∃κ',L=(7,vi q4)::E/\Stp [] K37 w36 κ' w') ?_ ?_
 revert h
 cases ht43:p37
 refine JF λh=>Jy R<|Js ?_
 cases h
 exact Jw1 _ ⟨K37,R,Jj3⟩<|KM R
 refine JT λh=>Jx R<|Jf3 R ?_
 cases h
 exact Jw1 _ ⟨K37,R,Jj3⟩<|KM R
 rintro _ w40 ⟨K41,rfl,S42⟩
 have h:=hK39
 refine Jz<|Jp<|Jf3 R ?_
 cases h
 exact Jz1 λa ha=>⟨k,_,Ja3 _,⟨K41,(q4,((IntKind.i64.wrap<|s1.2+1):Int)),R,(T3 S13 S38 S42).wk R,hk14⟩,(ha.mm R)⟩
 rintro _ w8 ⟨K9,s3,rfl,S10,rfl⟩
 have h:=yI hK6
 refine Jp<|Je3 R<|Ju<|Ja2 (l:=[.tmp 6]) V249 (Jp2 R R) R ?_
 cases h
 exact⟨K9,R,(hE.stp<|S3.tr S10)⟩
theorem tC {af ad ah ak aa ab ae ai ac aj}{p0:l7Game}{a1 u1}{p1:(List Bool)}(g0_0:Rd (Rp.int .i64) κ w 0 af ad p0.owner) (g0_1:Rd (Rp.int .i64) κ w 0 ah ak p0.prio) (g0_2:Rd (Rp.sl (Rp.int .i64)) κ w 0 aa ab p0.next) (g0_3:Rd (Rp.sl (Rp.int .i64)) κ w 0 ae ai p0.prev) (g0_4:Rd (Rp.int .i64) κ w 0 ac aj p0.pick) (g1:Rd Rp.bool κ w 0 a1 u1 p1){r:Int}(h:nX p0 p1=some r):Ret Tryz.prog 270 [.agg #[.slice af p0.owner.length ad,.slice ah p0.prio.length ak,.slice aa p0.next.length ab,.slice ae p0.prev.length ai,.slice ac p0.pick.length aj],.slice a1 p1.length u1] w (Pvi κ w r):=by
 unfold nX at h
 refine Jk3 κ F270 R N270 R λhE=>Je [1,2] R<|Js3 (κ:=κ) 2 R λb2 w1 K2 S3 f4=>Tv<|Jb 1 R<|Je3 R<|Jq<|Je3 R ?_
 have hN5:(p1.length:Int)<=9223372036854775807:=g1.len_le
 refine Ob h λq2 hq7 hK6=>?_
 clear h
 refine Jx1 (λL w'=>∃κ' s3,L=[(5,vi s3)]/\Stp [] K2 w1 κ' w'/\q2=yD s3) ?_ ?_
 refine Jv<|Jp3 [1,2] (λk E L w'=>∃κ' v6 s1,L=(5,vi s1)::(6,vi v6)::E/\Stp [] K2 w1 κ' w'/\0<=v6/\yG ((p1.length:Int)-v6)=k/\cntM (jV p0 p1) k v6 s1=some q2) ⟨_,_,⟨K2,0,((-1):Int),R,Jj3,(by decide),(by simp),hq7⟩,(KM R)⟩ ?_
 rintro k _ w11 ⟨K12,v6,s1,rfl,S13,hj5,hJ5,h⟩
 rcases k with _ | k
 have hk14:=h;obtain⟨o5,h⟩:=bT (yD (yE s1):Int⊕((Int)⊕(Int)))
 have hc5:decide (v6<(p1.length:Int))=false:=Jo2 (by omega)
 refine Jq<|Jg3 [2,2,2,2] 2 R<|Jn3 R U178 R R<|Jb 1 R<|Jw2 R hc5<|Jc1<|Jt<|Jt ?_
 cases h
 have h:=hk14
 refine Jb1 ?_
 cases h
 exact Jw1 _ ⟨K12,s1,R,S13.wk R,R⟩<|KM R
 obtain⟨o5,h,hk14⟩:=BI h;unfold jV at h
 have hc5:decide (v6<(p1.length:Int))=true:=Jn2 (by omega)
 refine Jq<|Jg3 [2,2,2,2] 2 R<|Jn3 R U178 R R<|Jb 1 R<|Jv2 R hc5<|Js<|Jp<|Jq<|Jv<|Jg3 [2,2,2,1] 2 R<|Ob h λx15 hx15 h=>Jc3 R g1 hx15 U178 Z4<|Jb3 R I4 ((g1.stp<|S3.tr S13).gBool hx15)<|Jd<|Ob h λq4 h hK16=>Jo3 [1,2,6] (λE L w'=>∃κ',L=(5,vi q4)::E/\Stp [] K12 w11 κ' w') ?_ ?_
 revert h
 cases ht20:x15
 refine JF λh=>Jy R<|Js ?_
 cases h
 exact Jw1 _ ⟨K12,R,Jj3⟩<|KM R
 refine JT λh=>Jx R<|Jh3 [2,2,1,2,2,1,1,2] 1 R<|Jd3 R U210 R Z37<|Jb3 R I37 ((f4.stp S13).ld 1 R R)<|Jn 1 R<|Ob h λx21 hx21 h=>Jc3 R g0_1 hx21 U37 Z2<|Jb3 R I2 ((g0_1.stp<|S3.tr S13).gInt hx21)<|Ob h λx23 hx23 h=>Jr3 R C247 (lI (κ:=Mk K12) hx23) ?_
 rintro _ w23 ⟨k24,rfl,e25⟩
 obtain⟨K26,S27,m28⟩:=Ji e25 3 R
 refine Tv<|Jc 1 R ?_
 cases h
 exact Jw1 _ ⟨K26,R,S27.wk R⟩<|KM R
 rintro _ w17 ⟨K18,rfl,S19⟩
 have h:=hK16
 refine Jz<|Jp<|Jf3 R ?_
 have hw5:yC .i64 (v6+1)=v6+1:=wr1 hj5 (Jm2 hc5) hN5
 rw[hw5]
 have hc5:=Jm2 hc5
 cases h
 exact Jz1 λa ha=>⟨k,_,Ja3 _,⟨K18,v6+1,q4,R,(S13.tr S19).wk R,by omega,by omega,hk14⟩,(ha.mm R)⟩
 rintro _ w8 ⟨K9,s3,rfl,S10,rfl⟩
 have h:=yI hK6
 refine Jp<|Je3 R<|Ju<|Ja2 (l:=[.tmp 4]) V270 (Jp2 R R) R ?_
 cases h
 exact⟨K9,R,(hE.stp<|S3.tr S10)⟩
theorem oI {ad ac}{p0:dice}{p1:Int}{b0}(g0_0:Rd (Rp.int .u8) κ w 0 ad ac p0.b) (gb0:Bc κ w 2 b0 65 [.slice ad p0.b.length ac,vi p0.i,.int .u64 p0.h]){r:Word×Int×Int}(h:lS p0 p1=some r):Ret Tryz.prog 15 [.pointer (some ⟨b0,0,none⟩),vi p1] w (λv w'=>∃(κ':Col) (ra0:Option Addr) (ru0:Nat) (ra1:Option Addr) (ru1:Nat),v= .agg #[.slice ra0 r.1.Stem.length ru0,.slice ra1 r.1.Loop.length ru1]/\Ent κ w κ' w'/\Oc E6 2 κ' w' 3 ra0 ru0 r.1.Stem/\Oc E6 2 κ' w' 4 ra1 ru1 r.1.Loop/\Bc κ' w' 2 b0 65 [.slice ad p0.b.length ac,vi r.2.1,.int .u64 r.2.2]):=by
 unfold lS at h
 refine Jk3 κ F15 R N15 R λhE=>Je [1] R<|Jt3 (κ:=κ) 3 R X39 R λb4 w1 K2 S3 f4=>Tv<|Jd<|Je [2,1,1] R<|Jf R (bK (parts:=[]) (cells:=[.slice none 0 0,.slice none 0 0]) R R (by kernel_rfl))<|Jt3 (κ:=K2) 4 R X39 R λb5 w5 K6 S7 f8=>Tv<|Jv3 (κ:=K6) 4 (vc:=[.slice none 0 0,.slice none 0 0]) R Z39 R f8 R λw9 S10 f11=>Tv<|Jd<|Jq<|Jg3 [2,1,2] 1 R<|Ob h λx10 hx10 h=>?_
 have f12:=g0_0.stp (T3 S3 S7 S10)
 refine Jr3 R C25 (dd (κ:=λb=>mp [(2,2)] 0<|K6 b) (p0:=p0) (Jl2 f12 (mp [(2,2)] 0) R R) ((gb0.stp<|T3 S3 S7 S10).map (mp [(2,2)] 0) R R) hx10) ?_
 rintro _ w14 ⟨k15,rfl,e16,f17⟩
 obtain⟨K18,S19,m20⟩:=Ji e16 5 R
 refine Tv<|Jb 1 R<|Ob h λq2 hq25 hK24=>?_
 clear h
 refine Jo3 [0,1,4,5] (λE L w'=>∃κ',∃s3:Int×Int×Int×(List Int),∃ab aa,L=E/\Stp [4,7,8,11] K18 w14 κ' w'/\Oc E6 2 κ' w' 8 ab aa s3.2.2.2/\Bc κ' w' 7 b0 65 [.slice ad p0.b.length ac,vi s3.2.1,.int .u64 s3.2.2.1]/\Bc κ' w' 4 b5 39 [.slice ab s3.2.2.2.length aa,.slice none 0 0]/\q2=yD s3) ?_ ?_
 refine Jv<|Jp3 [0,1,4,5] (λk E L w'=>∃κ',∃s1:Int×Int×Int×(List Int),∃aj ah,L=(6,vi s1.1)::E/\Stp [4,7,8,11] K18 w14 κ' w'/\Oc E6 2 κ' w' 8 aj ah s1.2.2.2/\Bc κ' w' 7 b0 65 [.slice ad p0.b.length ac,vi s1.2.1,.int .u64 s1.2.2.1]/\Bc κ' w' 4 b5 39 [.slice aj s1.2.2.2.length ah,.slice none 0 0]/\ca (ku p0 p1) k s1=some q2) ⟨_,_,⟨K18,(x10.1,x10.2.1,x10.2.2,(([]:List Int):(List Int))),none,0,R,Jj3,Ow.nil,(f17.mx m20 R (R:5+2=7)),(f11.stp S19),hq25⟩,(KM R)⟩ ?_
 rintro k _ w32 ⟨K33,s1,aj,ah,rfl,S34,f35,f36,f37,h⟩
 rcases k with _ | k
 cases h
 obtain⟨o23,h,hk39⟩:=BI h;unfold ku at h
 refine Jq<|Je3 R ?_
 revert h
 cases ht40:decide (0<s1.1)
 refine JF λh=>Jy R<|Jc1<|Jt<|Jt ?_
 cases h
 have h:=hk39
 refine Jb1 ?_
 cases h
 exact Jw1 _ ⟨K33,(s1.1,s1.2.1,s1.2.2.1,s1.2.2.2),aj,ah,R,S34.wk R,f35,f36,f37,R⟩<|KM R
 refine JT λh=>Jx R<|Js<|Jp<|Jq<|Jv<|Js1 (κ:=K33) [4] (some 8) [(0,2),(2,2),(3,2),(1,0),(4,1),(5,1),(6,1),(7,2)] [(8,1)] (by kernel_rfl) (by kernel_rfl) λw42 S41=>Jd3 R U39 R Z37<|Jn 2 R ?_
 have f43:=f37.stp S41
 refine Jg R (Jc2 I37 R R<|hvC (f43.ld 0 R R) R)<|Ob h λx19 hx19 h=>Jr3 R C25 (dd (κ:=λb=>mp [(7,2)] 0<|K33 b) (p0:=(⟨p0.b,s1.2.1,s1.2.2.1⟩:dice)) (Jl2 (f12.stp<|T3 S19 S34 S41) (mp [(7,2)] 0) R R) ((f36.stp S41).map (mp [(7,2)] 0) R R) hx19) ?_
 rintro _ w46 ⟨k47,rfl,e48,f49⟩
 obtain⟨K50,S51,m52⟩:=Ji e48 9 R
 refine⟨(S51.cl R),Jw3 (κ:=K50) (E:=E6) 12 [] (parts:=[(0,.tmp 19)]) (cells:=[vi x19.1]) (xs:=([x19.1]:List Int)) R Y37 bG R ⟨[vi x19.1],[],Zl K50 w46 [],Zl K50 w46 [],R,Zl.sp (l1:=[]) (l2:=[]) R,Zl.sr (l1:=[]) (l2:=[]),R,R⟩ λar ap w55 K56 S57 f58=>⟨((S51.tr S57).cl R),Ob h λx21 hx21 h=>Jy3 (κ:=K56) (E:=E6) 8 [] R Y37 bG R (f35.stp<|T3 S41 S51 S57) (Sl.srcP (bP _) f58.rdc) bI hx21 R λam al w60 K61 S62 f63=>⟨((T3 S51 S57 S62).cl R),Jd3 R U39 R Z37<|Jt1<|Ju3 (κ:=K61) 4 (off:=0) (vc:=[.slice am x21.length al]) (cs':=[.slice am x21.length al,.slice none 0 0]) R Z37 R (f43.stp<|T3 S51 S57 S62) R λw65 S66 f67=>Tv<|Jo<|Jz<|Jp<|Jf3 R ?_⟩⟩⟩
 cases h
 exact Jz1 λa ha=>⟨k,_,Ja3 _,⟨(λb=>ren [(11,7)]<|K61 b),(((IntKind.i64.wrap<|s1.1-1):Int),x19.2.1,x19.2.2,x21),am,al,R,(Jy2 ((T6 S34 S41 S51 S57 S62 S66).wk R) [(11,7)] R),((f63.stp S66).map (ren [(11,7)]) R R),(((f49.mx m52 R (R:9+2=11)).stp (T3 S57 S62 S66)).map (ren [(11,7)]) R R),(f67.map (ren [(11,7)]) R R),hk39⟩,(ha.mm R)⟩
 rintro _ w26 ⟨K27,s3,ab,aa,rfl,S28,f29,f30,f31,rfl⟩
 have h:=yI hK24
 refine Jp<|Jq<|Jg3 [2,1,2,2] 1 R<|Ob h λx24 hx24 h=>?_
 have f70:=f12.stp (S19.tr S28)
 refine Jr3 R C25 (dd (κ:=λb=>mp [(7,2)] 0<|K27 b) (p0:=(⟨p0.b,s3.2.1,s3.2.2.1⟩:dice)) (Jl2 f70 (mp [(7,2)] 0) R R) (f30.map (mp [(7,2)] 0) R R) hx24) ?_
 rintro _ w71 ⟨k72,rfl,e73,f74⟩
 obtain⟨K75,S76,m77⟩:=Ji e73 9 R
 refine Tv<|Jb 2 R<|Ob h λq5 hq82 hK81=>?_
 clear h
 refine Jo3 [0,4,5] (λE L w'=>∃κ',∃s6:Int×Int×Int×(List Int),∃af ae,L=E/\Stp [4,11,12,15] K75 w71 κ' w'/\Oc E6 2 κ' w' 12 af ae s6.2.2.2/\Bc κ' w' 11 b0 65 [.slice ad p0.b.length ac,vi s6.2.1,.int .u64 s6.2.2.1]/\Bc κ' w' 4 b5 39 [.slice ab s3.2.2.2.length aa,.slice af s6.2.2.2.length ae]/\q5=yD s6) ?_ ?_
 refine Jv<|Jp3 [0,1,4,5] (λk E L w'=>∃κ',∃s4:Int×Int×Int×(List Int),∃ak ai,L=(7,vi s4.1)::E/\Stp [4,11,12,15] K75 w71 κ' w'/\Oc E6 2 κ' w' 12 ak ai s4.2.2.2/\Bc κ' w' 11 b0 65 [.slice ad p0.b.length ac,vi s4.2.1,.int .u64 s4.2.2.1]/\Bc κ' w' 4 b5 39 [.slice ab s3.2.2.2.length aa,.slice ak s4.2.2.2.length ai]/\ca (ko p0 p1) k s4=some q5) ⟨_,_,⟨K75,(((IntKind.i64.wrap (1+x24.1)):Int),x24.2.1,x24.2.2,(([]:List Int):(List Int))),none,0,R,Jj3,Ow.nil,(f74.mx m77 R (R:9+2=11)),(f31.stp S76),hq82⟩,(KM R)⟩ ?_
 rintro k _ w89 ⟨K90,s4,ak,ai,rfl,S91,f92,f93,f94,h⟩
 rcases k with _ | k
 cases h
 obtain⟨o80,h,hk96⟩:=BI h;unfold ko at h
 refine Jq<|Je3 R ?_
 revert h
 cases ht97:decide (0<s4.1)
 refine JF λh=>Jy R<|Jc1<|Jt<|Jt ?_
 cases h
 have h:=hk96
 refine Jb1 ?_
 cases h
 exact Jw1 _ ⟨K90,(s4.1,s4.2.1,s4.2.2.1,s4.2.2.2),ak,ai,R,S91.wk R,f92,f93,f94,R⟩<|KM R
 refine JT λh=>Jx R<|Js<|Jp<|Jq<|Jv<|Js1 (κ:=K90) [4] (some 8) [(0,2),(2,2),(3,2),(1,0),(4,1),(5,1),(6,1),(7,2)] [(8,1)] (by kernel_rfl) (by kernel_rfl) λw99 S98=>Jd3 R U39 R Z37<|Jn 2 R ?_
 have f100:=f94.stp S98
 refine Jg R (Jc2 I37 R R<|hvC (f100.ld 1 R R) R)<|Ob h λx34 hx34 h=>Jr3 R C25 (dd (κ:=λb=>mp [(11,2)] 0<|K90 b) (p0:=(⟨p0.b,s4.2.1,s4.2.2.1⟩:dice)) (Jl2 (f70.stp<|T3 S76 S91 S98) (mp [(11,2)] 0) R R) ((f93.stp S98).map (mp [(11,2)] 0) R R) hx34) ?_
 rintro _ w103 ⟨k104,rfl,e105,f106⟩
 obtain⟨K107,S108,m109⟩:=Ji e105 13 R
 refine⟨(S108.cl R),Jw3 (κ:=K107) (E:=E6) 16 [] (parts:=[(0,.tmp 34)]) (cells:=[vi x34.1]) (xs:=([x34.1]:List Int)) R Y37 bG R ⟨[vi x34.1],[],Zl K107 w103 [],Zl K107 w103 [],R,Zl.sp (l1:=[]) (l2:=[]) R,Zl.sr (l1:=[]) (l2:=[]),R,R⟩ λaq au w112 K113 S114 f115=>⟨((S108.tr S114).cl R),Ob h λx36 hx36 h=>Jy3 (κ:=K113) (E:=E6) 12 [] R Y37 bG R (f92.stp<|T3 S98 S108 S114) (Sl.srcP (bP _) f115.rdc) bI hx36 R λan ao w117 K118 S119 f120=>⟨((T3 S108 S114 S119).cl R),Jd3 R U39 R Z37<|Jt1<|Ju3 (κ:=K118) 4 (off:=1) (vc:=[.slice an x36.length ao]) (cs':=[.slice ab s3.2.2.2.length aa,.slice an x36.length ao]) R Z37 R (f100.stp<|T3 S108 S114 S119) R λw122 S123 f124=>Tv<|Jo<|Jz<|Jp<|Jf3 R ?_⟩⟩⟩
 cases h
 exact Jz1 λa ha=>⟨k,_,Ja3 _,⟨(λb=>ren [(15,11)]<|K118 b),(((IntKind.i64.wrap<|s4.1-1):Int),x34.2.1,x34.2.2,x36),an,ao,R,(Jy2 ((T6 S91 S98 S108 S114 S119 S123).wk R) [(15,11)] R),((f120.stp S123).map (ren [(15,11)]) R R),(((f106.mx m109 R (R:13+2=15)).stp (T3 S114 S119 S123)).map (ren [(15,11)]) R R),(f124.map (ren [(15,11)]) R R),hk96⟩,(ha.mm R)⟩
 rintro _ w83 ⟨K84,s6,af,ae,rfl,S85,f86,f87,f88,rfl⟩
 have h:=yI hK81
 refine Jp<|Je [1,1] R<|Jb4 tv R (Jc4 (haE f88.cells) I39 Z39 R)<|Jv3 (κ:=K84) 3 (vc:=[.slice ab s3.2.2.2.length aa,.slice af s6.2.2.2.length ae]) R Z39 R (f4.stp<|T6 S7 S10 S19 S28 S76 S85) R λw128 S129 f130=>Tv<|Jd<|Ju<|Ja2 (l:=[.cell 4 39]) V15 (bM R f130 I39 Z39 R R) R ?_
 cases h
 exact⟨(λb=>ren [(8,3),(12,4),(11,2)]<|K84 b),ab,aa,af,ae,R,((hE.stp<|T8 S3 S7 S10 S19 S28 S76 S85 S129).map (ren [(8,3),(12,4),(11,2)]) R R),((f29.stp<|T3 S76 S85 S129).map (ren [(8,3),(12,4),(11,2)]) R R),((f86.stp S129).map (ren [(8,3),(12,4),(11,2)]) R R),((f87.stp S129).map (ren [(8,3),(12,4),(11,2)]) R R)⟩
end Go.Proofs.YtleekpaohfpooaaGreat
