/- The walks, part 3. By program. -/
import Derived.Test.YtleekpaohfpooaaGreatFns0KE
import Derived.Test.YtleekpaohfpooaaGreatFns1KE
set_option linter.unusedVariables false
set_option linter.unusedSimpArgs false
open Go.IntKind renaming wrap → yC
open Sum renaming inr → yD, inl → yE
open Int renaming toNat → yG
namespace Go.Proofs.YtleekpaohfpooaaGreat
open Go Go.Wk Go.Proofs
set_option maxRecDepth 100000
set_option maxHeartbeats 1000000
variable {w:World}{κ:Col}
theorem p5 {ac ab}{p0:dice}{p1:Int}{b0}(g0_0:Rd (Rp.int .u8) κ w 0 ac ab p0.b) (gb0:Bc κ w 2 b0 65 [.slice ac p0.b.length ab,vi p0.i,.int .u64 p0.h]){r:(List Int)×Int×Int}(h:mM p0 p1=some r):Ret Tryz.prog 102 [.pointer (some ⟨b0,0,none⟩),vi p1] w (λv w'=>∃(κ':Col) (ra0:Option Addr) (ru0:Nat),v= .slice ra0 r.1.length ru0/\Ent κ w κ' w'/\Oc E6 2 κ' w' 3 ra0 ru0 r.1/\Bc κ' w' 2 b0 65 [.slice ac p0.b.length ab,vi r.2.1,.int .u64 r.2.2]):=by
 unfold mM at h
 refine Jk3 κ F102 R N102 R λhE=>Je3 R<|Je [1,2] R<|Jx3 (κ:=κ) (E:=E6) 3 R Y37 bG R λa7 u7 w1 K2 S3 f4=>Tv<|Jb 1 R<|Jq<|Je3 R<|Ob h λ_ hr5 h=>?_
 have hN5:=jo hr5
 refine Ob h λq2 hq7 hK6=>?_
 clear h
 refine Jo3 [0] (λE L w'=>∃κ',∃s3:(List Int)×Int×Int,∃ai af,L=(5,.slice ai s3.1.length af)::E/\Stp [2,3,6] K2 w1 κ' w'/\Oc E6 2 κ' w' 3 ai af s3.1/\Bc κ' w' 2 b0 65 [.slice ac p0.b.length ab,vi s3.2.1,.int .u64 s3.2.2]/\q2=yD s3) ?_ ?_
 refine Jv<|Jp3 [0,1] (λk E L w'=>∃κ' v6,∃s1:(List Int)×Int×Int,∃ad aa,L=(5,.slice ad s1.1.length aa)::(6,vi v6)::E/\Stp [2,3,6] K2 w1 κ' w'/\Oc E6 2 κ' w' 3 ad aa s1.1/\Bc κ' w' 2 b0 65 [.slice ac p0.b.length ab,vi s1.2.1,.int .u64 s1.2.2]/\0<=v6/\yG (p1-v6)=k/\cntM (jL p0) k v6 s1=some q2) ⟨_,_,⟨K2,0,((([]:List Int):(List Int)),p0.i,p0.h),a7,u7,R,Jj3,f4,(gb0.stp S3),(by decide),(by simp),hq7⟩,(KM R)⟩ ?_
 rintro k _ w13 ⟨K14,v6,s1,ad,aa,rfl,S15,f16,f17,hj5,hJ5,h⟩
 rcases k with _ | k
 have hk19:=h;obtain⟨o5,h⟩:=bT (yD (yE s1):((List Int)×Int×Int)⊕(((List Int)×Int×Int)⊕((List Int)×Int×Int)))
 have hc5:decide (v6<p1)=false:=Jo2 (by omega)
 refine Jq<|Je3 R<|Jw2 R hc5<|Jc1<|Jt<|Jt ?_
 cases h
 have h:=hk19
 refine Jb1 ?_
 cases h
 exact Jw1 _ ⟨K14,(s1.1,s1.2.1,s1.2.2),ad,aa,R,S15.wk R,f16,f17,R⟩<|KM R
 obtain⟨o5,h,hk19⟩:=BI h;unfold jL at h
 have hc5:decide (v6<p1)=true:=Jn2 (by omega)
 refine Jq<|Je3 R<|Jv2 R hc5<|Js<|Jp<|Jq<|Jv<|Jg3 [2,1,2] 1 R<|Ob h λx14 hx14 h=>Jr3 R C25 (dd (κ:=λb=>mp [(2,2)] 0<|K14 b) (p0:=(⟨p0.b,s1.2.1,s1.2.2⟩:dice)) (Jl2 (g0_0.stp<|S3.tr S15) (mp [(2,2)] 0) R R) (f17.map (mp [(2,2)] 0) R R) hx14) ?_
 rintro _ w21 ⟨k22,rfl,e23,f24⟩
 obtain⟨K25,S26,m27⟩:=Ji e23 4 R
 refine Tv<|Jb 1 R<|Ob h λq4 h hK30=>Jo3 [0,1,6] (λE L w'=>∃κ' ah ae,L=(5,.slice ah q4.length ae)::E/\Stp [3] K25 w21 κ' w'/\Oc E6 2 κ' w' 3 ah ae q4) ?_ ?_
 revert h
 cases ht35:(x14.1==0)
 refine JF λh=>Jy R<|Js ?_
 cases h
 exact Jw1 _ ⟨K25,ad,aa,R,Jj3,(f16.stp S26)⟩<|KM R
 refine JT λh=>Jx R<|Jh3 [2,2,1,1,2] 2 R<|Jw3 (κ:=K25) (E:=E6) 7 [] (parts:=[(0,.tmp 17)]) (cells:=[vi v6]) (xs:=([v6]:List Int)) R Y37 bG R ⟨[vi v6],[],Zl K25 w21 [],Zl K25 w21 [],R,Zl.sp (l1:=[]) (l2:=[]) R,Zl.sr (l1:=[]) (l2:=[]),R,R⟩ λal am w36 K37 S38 f39=>Tv<|Ob h λx19 hx19 h=>Jy3 (κ:=K37) (E:=E6) 3 [] R Y37 bG R (f16.stp<|S26.tr S38) (Sl.srcP (bP _) f39.rdc) bI hx19 R λaj ak w41 K42 S43 f44=>Tv<|Jc 1 R ?_
 cases h
 exact Jw1 _ ⟨K42,aj,ak,R,(S38.tr S43).wk R,f44⟩<|KM R
 rintro _ w31 ⟨K32,ah,ae,rfl,S33,f34⟩
 have h:=hK30
 refine Jz<|Jp<|Jf3 R ?_
 have hw5:yC .i64 (v6+1)=v6+1:=wr1 hj5 (Jm2 hc5) hN5
 rw[hw5]
 have hc5:=Jm2 hc5
 cases h
 exact Jz1 λa ha=>⟨k,_,Ja3 _,⟨(λb=>ren [(6,2)]<|K32 b),v6+1,(q4,x14.2.1,x14.2.2),ah,ae,R,(Jy2 ((T3 S15 S26 S33).wk R) [(6,2)] R),(f34.map (ren [(6,2)]) R R),(((f24.mx m27 R (R:4+2=6)).stp S33).map (ren [(6,2)]) R R),by omega,by omega,hk19⟩,(ha.mm R)⟩
 rintro _ w8 ⟨K9,s3,ai,af,rfl,S10,f11,f12,rfl⟩
 have h:=yI hK6
 refine Jp<|Je3 R<|Ju<|Ja2 (l:=[.tmp 4]) V102 (Jp2 R R) R ?_
 cases h
 exact⟨K9,ai,af,R,(hE.stp<|S3.tr S10),f11,f12⟩
theorem qB {p0:Sig}{aa ad ac ab}{p1:Clause}(g1_1:Rd (Rp.int .i64) κ w 0 aa ad p1.A) (g1_2:Rd (Rp.int .i64) κ w 0 ac ab p1.B){r:Bool}(h:jH p0 p1=some r):Ret Tryz.prog 128 [.agg #[vi p0.In,vi p0.Out],.agg #[vi p1.Kind,.slice aa p1.A.length ad,.slice ac p1.B.length ab]] w (Pvb κ w r):=by
 unfold jH at h
 refine Jk3 κ F128 R N128 R λhE=>Je [1,1,2] R<|Js3 (κ:=κ) 2 R λb2 w1 K2 S3 f4=>Tv<|Js3 (κ:=K2) 3 R λb3 w5 K6 S7 f8=>Tv<|Jb 1 R<|Jq<|Jq<|Js1 (κ:=K6) [2,3] none [(0,2),(1,0),(2,2),(3,2),(4,2),(5,0),(6,2),(7,2),(8,2),(9,2),(10,0),(11,0),(12,1),(13,1),(14,2),(15,2),(16,2),(17,2),(18,0),(19,0),(20,1),(21,1),(22,2),(23,2)] [] (by kernel_rfl) (by kernel_rfl) λw10 S9=>Jd3 R U67 R Z2 ?_
 have f11:=f8.stp S9
 refine Jg R (Jc2 I2 R R<|hvC (f11.ld 0 R R) R)<|Jn 2 R<|Ob h λp12 h hK12=>Jq3 [2,3] (λE L w'=>L=(12,.bool p12)::E/\∃κ',Stp [] K6 w10 κ' w') [(4,2),(5,0),(6,2),(7,2)] [(8,2),(9,2),(10,0),(11,0),(12,1),(13,1),(14,2),(15,2),(16,2),(17,2),(18,0),(19,0),(20,1),(21,1),(22,2),(23,2)] (Cl.refl _ _ _) ?_ ?_
 revert h
 cases ht13:decide (p1.Kind<1)
 refine JF λh=>Jd3 R U67 R Z2<|Jg R (Jc2 I2 R R<|hvC (f11.ld 0 R R) R)<|Jn 2 R ?_
 cases h
 exact Jv1 _ (Cl.refl _ _ _) ⟨R,_,Jj3⟩<|KM R
 refine JT λh=>Jn 1 R<|Ja4 R<|Jn 2 R ?_
 cases h
 exact Jv1 _ (Cl.refl _ _ _) ⟨R,_,Jj3⟩<|KM R
 rintro _ w14 _ ⟨rfl,K15,S16⟩
 have h:=hK12
 refine Jn 1 R<|Ob h λp20 h hK17=>Jq3 [2,3] (λE L w'=>L=(20,.bool p20)::E/\∃κ',Stp [] K15 w14 κ' w') [(9,2),(10,0),(11,0),(12,1),(13,1),(14,2),(15,2)] [(16,2),(17,2),(18,0),(19,0),(20,1),(21,1),(22,2),(23,2)] (S16.cl R) ?_ ?_
 revert h
 cases ht18:p12
 refine JF λh=>Jd3 R U67 R Z37<|Jg R (Jc2 I37 R R<|hvC (f11.ld 1 R R) R)<|Jg R (Jc4 (haC (f4.stp<|S7.tr S9).cells R) I28 Z28 R)<|Ob h λx17 hx17 h=>Jr3 R C103 (fO (κ:=Mk K15) (p0:=p0) hx17) ?_
 rintro _ w20 ⟨k21,rfl,e22⟩
 obtain⟨K23,S24,m25⟩:=Ji e22 4 R
 refine⟨((S16.tr S24).cl R),Ob h λx18 hx18 h=>Jr3 R C195 (jR (κ:=Mk K23) (Ji3<|g1_1.stp<|T5 S3 S7 S9 S16 S24) hx18) ?_⟩
 rintro _ w28 ⟨k29,rfl,e30⟩
 obtain⟨K31,S32,m33⟩:=Ji e30 6 R
 refine⟨((T3 S16 S24 S32).cl R),Jn 2 R ?_⟩
 cases h
 exact Jv1 _ ((T3 S16 S24 S32).cl R) ⟨R,_,(S24.tr S32).wk R⟩<|KM R
 refine JT λh=>Jn 1 R<|Ja4 R<|Ja4 R<|Jz3 R<|Jz3 R<|Jn 2 R ?_
 cases h
 exact Jv1 _ (S16.cl R) ⟨R,_,Jj3⟩<|KM R
 rintro _ w35 _ ⟨rfl,K36,S37⟩
 have h:=hK17
 refine Jn 1 R<|Ob h λp28 h hK38=>Jq3 [3] (λE L w'=>L=(28,.bool p28)::E/\∃κ',Stp [] K36 w35 κ' w') [(17,2),(18,0),(19,0),(20,1),(21,1),(22,2),(23,2)] [] ((S16.tr S37).cl R) ?_ ?_
 revert h
 cases ht39:p20
 refine JF λh=>Jd3 R U67 R Z37<|Jg R (Jc2 I37 R R<|hvC (f11.ld 2 R R) R)<|Jg R (Jc4 (haC (f4.stp<|S7.tr S9).cells R) I28 Z28 R)<|Ob h λx25 hx25 h=>Jr3 R C103 (fO (κ:=Mk K36) (p0:=p0) hx25) ?_
 rintro _ w41 ⟨k42,rfl,e43⟩
 obtain⟨K44,S45,m46⟩:=Ji e43 4 R
 refine⟨((T3 S16 S37 S45).cl R),Ob h λx26 hx26 h=>Jr3 R C195 (jR (κ:=Mk K44) (Ji3<|g1_2.stp<|T6 S3 S7 S9 S16 S37 S45) hx26) ?_⟩
 rintro _ w49 ⟨k50,rfl,e51⟩
 obtain⟨K52,S53,m54⟩:=Ji e51 6 R
 refine⟨((T4 S16 S37 S45 S53).cl R),Jn 2 R ?_⟩
 cases h
 exact Jv1 _ ((T4 S16 S37 S45 S53).cl R) ⟨R,_,(S45.tr S53).wk R⟩<|KM R
 refine JT λh=>Jn 1 R<|Ja4 R<|Ja4 R<|Jz3 R<|Jz3 R<|Jn 2 R ?_
 cases h
 exact Jv1 _ ((S16.tr S37).cl R) ⟨R,_,Jj3⟩<|KM R
 rintro _ w56 _ ⟨rfl,K57,S58⟩
 have h:=hK38
 refine Jt1<|Jd ?_
 revert h
 cases ht59:p28
 refine JF λh=>Jy R<|Js<|Jp<|Je [2,1,1,2,2,1,2,2,2,2] R<|Jd3 R U67 R Z2 ?_
 have f61:=f11.stp (T3 S16 S37 S58)
 refine Jb3 R I2 (f61.ld 0 R R)<|Ob h λx31 hx31 h=>Jr3 R C196 (pH (κ:=Mk K57) hx31) ?_
 rintro _ w62 ⟨k63,rfl,e64⟩
 obtain⟨K65,S66,m67⟩:=Ji e64 4 R
 refine Tv<|Jn 1 R<|Ob h λp37 h hK69=>Ju1 [(4,2),(5,1),(6,2),(7,2),(8,2)] [(9,2)] (λL w'=>L=[(37,.bool p37)]/\∃κ',Stp [] K65 w62 κ' w') tv ?_ ?_
 revert h
 cases ht70:x31
 refine JF λh=>Jd3 R U67 R Z37<|Jb3 R I37 ((f61.stp S66).ld 2 R R)<|Jn3 R U37 R R<|Jn 2 R ?_
 cases h
 exact Jv1 _ tv ⟨R,_,Jj3⟩<|KM R
 refine JT λh=>Jn 1 R<|Jz3 R<|Jn 3 R ?_
 cases h
 exact Jv1 _ tv ⟨R,_,Jj3⟩<|KM R
 rintro _ w72 _ ⟨rfl,K73,S74⟩
 have h:=hK69
 refine Jb 1 R<|Ju<|Ja2 (l:=[.tmp 4]) V128 (Jp2 R R) R ?_
 cases h
 exact⟨K73,R,(hE.stp<|T8 S3 S7 S9 S16 S37 S58 S66 S74)⟩
 refine JT λh=>Jx R<|Je3 R<|Ju<|Jw<|Ja2 (l:=[.tmp 4]) V128 (Jp2 R R) R ?_
 cases h
 exact⟨K57,R,(hE.stp<|T6 S3 S7 S9 S16 S37 S58)⟩
theorem ch {a0 u0}{p0:(List Int)}{p1:Int}(g0:Rd (Rp.int .i64) κ w 0 a0 u0 p0){r:Bool}(h:bO p0 p1=some r):Ret Tryz.prog 89 [.slice a0 p0.length u0,vi p1] w (Pvb κ w r):=by
 unfold bO at h
 refine Jk3 κ F89 R N89 R λhE=>Je3 R<|Jg3 [2,2,1,2,2] 2 R<|Ob h λx7 hx7 h=>Jr3 R C49 (gK (κ:=Mk κ) (Ji3 g0) hx7) ?_
 rintro _ w1 ⟨k2,rfl,e3⟩
 obtain⟨K4,S5,m6⟩:=Ji e3 2 R
 refine Tv<|Jb 2 R<|Ju<|Ja2 (l:=[.tmp 4]) V89 (Jp2 R R) R ?_
 cases h
 exact⟨K4,R,(hE.stp S5)⟩
theorem tQ {ab aa ac ad}{p0:Arena}(g0_0:Rd (Rp.int .i64) κ w 0 ab aa p0.Owner) (g0_1:Rd (Rp.sl (Rp.int .i64)) κ w 0 ac ad p0.Next){r:(List Int)}(h:nO p0=some r):Ret Tryz.prog 115 [.agg #[.slice ab p0.Owner.length aa,.slice ac p0.Next.length ad]] w (Pvs E6 2 κ w r):=by
 unfold nO at h
 refine Jk3 κ F115 R N115 R λhE=>Je [1,2] R<|Js3 (κ:=κ) 2 R λb1 w1 K2 S3 f4=>Tv<|Jb 1 R<|Je [1,1,1,2] R<|Jb4 tv R (Jc4 (haE f4.cells) I75 Z75 R)<|Ob h λx4 hx4 h=>Jr3 R C181 (oh (κ:=Mk K2) (p0:=p0) (Ji3<|g0_0.stp S3) (Ji3<|g0_1.stp S3) hx4) ?_
 rintro _ w7 ⟨k8,rfl,e9⟩
 obtain⟨K10,S11,m12⟩:=Ji e9 3 R
 refine Tv<|Ob h λx5 hx5 h=>Jr3 R C91 (tD (κ:=Mk K10) hx5) ?_
 rintro _ w14 ⟨k15,af,ae,rfl,e16,f17⟩
 obtain⟨K18,S19,m20⟩:=Ji e16 5 R
 refine Tv<|Jb 1 R<|Ju<|Ja2 (l:=[.tmp 2]) V115 (Jp2 R R) R ?_
 cases h
 exact⟨(λb=>ren [(7,2)]<|K18 b),af,ae,R,((hE.stp<|T3 S3 S11 S19).map (ren [(7,2)]) R R),((f17.mx (bL _) m20 R (R:5+2=7)).map (ren [(7,2)]) R R)⟩
theorem kK {aw aq au ax an ap ao ay}{p0:solver}{p1:Int}{a2 u2}{p2:(List Bool)}{a3 u3}{p3:(List Bool)}{b0}(g0_0_0_0:Rd (Rp.int .i64) κ w 0 aw aq p0.game.Arena.Owner) (g0_0_0_1:Rd (Rp.sl (Rp.int .i64)) κ w 0 au ax p0.game.Arena.Next) (g0_0_1:Rd (Rp.int .i64) κ w 0 an ap p0.game.Prio) (g0_1:Rd (Rp.sl (Rp.int .i64)) κ w 0 ao ay p0.preds) (g2:Rd Rp.bool κ w 0 a2 u2 p2) (g3:Rd Rp.bool κ w 0 a3 u3 p3) (gb0:Bc κ w 0 b0 193 [.slice aw p0.game.Arena.Owner.length aq,.slice au p0.game.Arena.Next.length ax,.slice an p0.game.Prio.length ap,.slice ao p0.preds.length ay]){r:(List Bool)}(h:fa p0 p1 p2 p3=some r):Ret Tryz.prog 244 [.pointer (some ⟨b0,0,none⟩),vi p1,.slice a2 p2.length u2,.slice a3 p3.length u3] w (Pvs Ep.bool 4 κ w r):=by
 unfold fa at h
 refine Jk3 κ F244 R N244 R λhE=>Je3 R<|Je [1,2,1,2] R<|Jx3 (κ:=κ) (E:=Ep.bool) 2 R Y178 du R λaE aD w1 K2 S3 f4=>Tv<|Jn 1 R<|Ob h λx19 hx19 h=>?_
 have f5:=g3.stp S3
 refine Jy3 (κ:=K2) (E:=Ep.bool) 2 [] R Y178 du R f4 (Sl.srcP uu f5) bI hx19 R λaf ai w6 K7 S8 f9=>Tv<|Jb 1 R<|Jg3 [2,2,1,2] 1 R<|Jn3 R U178 R R<|Ob h λx22 hx22 h=>Jl1 (κ:=K7) (E:=E6) (z:=(0:Int)) 3 R R R R R R R Y266 uX R R R R R (λ_ _ _=>R) (Ju2 hx22) λaa ab w10 K11 S12 f13=>Tv<|Jb 1 R<|Jg3 [2,1,2] 1 R<|Ob h λx24 hx24 h=>Jr3 R C179 (gH (κ:=Mk K11) (Ji3<|f5.stp<|S8.tr S12) hx24) ?_
 rintro _ w15 ⟨k16,aB,aA,rfl,e17,f18⟩
 obtain⟨K19,S20,m21⟩:=Ji e17 4 R
 refine Tv<|Jb 1 R<|Jq<|Ob h λq2 hq26 hK25=>?_
 clear h
 refine Jo3 [0,9] (λE L w'=>∃κ',∃s3:(List Int)×(List Bool)×(List Int),∃ar av,L=E/\Stp [2,3,6] K19 w15 κ' w'/\Oc E6 2 κ' w' 6 ar av s3.1/\Oc Ep.bool 4 κ' w' 2 af ai s3.2.1/\x19.length=s3.2.1.length/\Oc E6 3 κ' w' 3 aa ab s3.2.2/\x22.length=s3.2.2.length/\q2=yD s3) ?_ ?_
 refine Jv<|Jp3 [0,1,2,9,10] (λk E L w'=>∃κ',∃s1:(List Int)×(List Bool)×(List Int),∃ah ac,L=(11,.slice ah s1.1.length ac)::E/\Stp [2,3,6] K19 w15 κ' w'/\Oc E6 2 κ' w' 6 ah ac s1.1/\Oc Ep.bool 4 κ' w' 2 af ai s1.2.1/\x19.length=s1.2.1.length/\Oc E6 3 κ' w' 3 aa ab s1.2.2/\x22.length=s1.2.2.length/\ca (ea p0 p1 p2) k s1=some q2) ⟨_,_,⟨K19,(x24,x19,x22),aB,aA,R,Jj3,(f18.mx (bL _) m21 R (R:4+2=6)),(f9.stp<|S12.tr S20),R,(f13.stp S20),R,hq26⟩,(KM R)⟩ ?_
 rintro k _ w35 ⟨K36,s1,ah,ac,rfl,S37,f38,f39,hn40,f41,hn42,h⟩
 rcases k with _ | k
 cases h
 obtain⟨o24,h,hk45⟩:=BI h;unfold ea at h
 refine Jq<|Jg3 [2,2,2] 1 R<|Jn3 R U37 R R<|Jb 1 R ?_
 revert h
 cases ht46:decide (0<(s1.1.length:Int))
 refine JF λh=>Jy R<|Jc1<|Jt<|Jt ?_
 cases h
 have h:=hk45
 refine Jb1 ?_
 cases h
 exact Jw1 _ ⟨K36,(s1.1,s1.2.1,s1.2.2),ah,ac,R,S37.wk R,f38,f39,hn40,f41,hn42,R⟩<|KM R
 refine JT λh=>Jx R<|Js<|Jp<|Jv<|Jg3 [2,2,1,2] 1 R<|Ob h λx29 hx29 h=>Jc3 R f38.rdc hx29 U37 Z2<|Jb3 R I2 (f38.rdc.gInt hx29)<|Jb 1 R<|Jg3 [2,2,2] 1 R<|Ob h λx32 hx32 h=>Jf R (kN (k1:= .i64) (k2:= .i64) U37 Z2 (.inr ⟨_,R,R⟩) (.inl ⟨R,R⟩) hx32 f38.rdc.1 R R R)<|Jb 1 R<|Jg3 [2,2,2,1,2,2,1,2,2] 1 R<|Jf R (cr R R)<|Jd3 R U193 R Z31 ?_
 have f48:=gb0.stp (T5 S3 S8 S12 S20 S37)
 refine Jb3 R I31 (f48.ld 3 R R)<|Jn 1 R<|Ob h λx38 hx38 h=>Jc3 R g0_1 hx38 U31 Z37 ?_
 obtain⟨ax38,ux38,f50,hl51⟩:=(g0_1.stp (T5 S3 S8 S12 S20 S37)).gSl hx38
 refine Jb3 R I37 hl51<|Jn3 R U37 R R<|Jb 1 R ?_
 have hN52:(x38.length:Int)<=9223372036854775807:=f50.len_le
 refine Ob h λq5 hq54 hK53=>?_
 clear h
 refine Jo3 [0,1,2,9,10] (λE L w'=>∃κ',∃s6:(List Int)×(List Bool)×(List Int),∃ak aj,L=(11,.slice ak s6.1.length aj)::E/\Stp [2,3,6] K36 w35 κ' w'/\Oc E6 2 κ' w' 6 ak aj s6.1/\Oc Ep.bool 4 κ' w' 2 af ai s6.2.1/\x19.length=s6.2.1.length/\Oc E6 3 κ' w' 3 aa ab s6.2.2/\x22.length=s6.2.2.length/\q5=yD s6) ?_ ?_
 refine Jv<|Jp3 [0,1,2,9,10,39,40] (λk E L w'=>∃κ' v41,∃s4:(List Int)×(List Bool)×(List Int),∃ae ad,L=(11,.slice ae s4.1.length ad)::(41,vi v41)::E/\Stp [2,3,6] K36 w35 κ' w'/\Oc E6 2 κ' w' 6 ae ad s4.1/\Oc Ep.bool 4 κ' w' 2 af ai s4.2.1/\x19.length=s4.2.1.length/\Oc E6 3 κ' w' 3 aa ab s4.2.2/\x22.length=s4.2.2.length/\0<=v41/\yG ((x38.length:Int)-v41)=k/\cntM (dt p0 p1 p2 x38) k v41 s4=some q5) ⟨_,_,⟨K36,0,(x32,s1.2.1,s1.2.2),(subA ah ac (1:Int).toNat 1),(ac-(1:Int).toNat),R,Jj3,(f38.sub hx32),f39,hn40,f41,hn42,(by decide),(by simp),hq54⟩,(KM R)⟩ ?_
 rintro k _ w63 ⟨K64,v41,s4,ae,ad,rfl,S65,f66,f67,hn68,f69,hn70,hj52,hJ52,h⟩
 rcases k with _ | k
 have hk71:=h;obtain⟨o52,h⟩:=bT (yD (yE s4):(List Bool)⊕(((List Int)×(List Bool)×(List Int))⊕((List Int)×(List Bool)×(List Int))))
 have hc52:decide (v41<(x38.length:Int))=false:=Jo2 (by omega)
 refine Je3 R<|Jq<|Jw2 R hc52<|Jc1<|Jt<|Jt ?_
 cases h
 have h:=hk71
 refine Jb1 ?_
 cases h
 exact Jw1 _ ⟨K64,(s4.1,s4.2.1,s4.2.2),ae,ad,R,S65.wk R,f66,f67,hn68,f69,hn70,R⟩<|KM R
 obtain⟨o52,h,hk71⟩:=BI h;unfold dt at h
 have hc52:decide (v41<(x38.length:Int))=true:=Jn2 (by omega)
 refine Je3 R<|Jq<|Jv2 R hc52<|Js<|Jp<|Jq<|Jv<|Je [2,1,2] R<|Ob h λx43 hx43 h=>Jc3 R f50 hx43 U37 Z2<|Jb3 R I2 ((f50.stp S65).gInt hx43)<|Jb 1 R<|Jq<|Jg3 [2,2,2,1,2,2,2,2,1,2,2] 2 R<|Ob h λx47 hx47 h=>Jf R (Jf2 f67.rdc hx47 U178 Z4 R R hn68 R)<|Jb3 R I4 (f67.rdc.gBool hx47)<|Jn 1 R<|Ob h λp55 h hK73=>Jq3 [0,1,2,9,10,11,14,39,40,41] (λE L w'=>L=(55,.bool p55)::E/\∃κ',Stp [] K64 w63 κ' w') [(5,2),(6,2),(7,2),(8,1),(9,2),(10,2)] [] tv ?_ ?_
 revert h
 cases ht74:x47
 refine JF λh=>Jn 2 R<|Ob h λx52 hx52 h=>Jc3 R g2 hx52 U178 Z4<|Jb3 R I4 ((g2.stp<|T6 S3 S8 S12 S20 S37 S65).gBool hx52)<|Jn 2 R ?_
 cases h
 exact Jv1 _ tv ⟨R,_,Jj3⟩<|KM R
 refine JT λh=>Jn 3 R<|Jz3 R<|Jn 2 R ?_
 cases h
 exact Jv1 _ tv ⟨R,_,Jj3⟩<|KM R
 rintro _ w76 _ ⟨rfl,K77,S78⟩
 have h:=hK73
 refine Jd ?_
 revert h
 cases ht79:p55
 refine JF λh=>Jy R<|Js<|Jp<|Jq<|Jg3 [2,2,2,2,2,1,2,2,1,2,2] 1 R<|Jf R (cr R R)<|Jd3 R U193 R Z79<|Jd3 R U79 R Z75<|Jd3 R U75 R Z37 ?_
 have f83:=f48.stp (S65.tr S78)
 refine Jb3 R I37 (f83.ld 0 R R)<|Jn 1 R<|Ob h λx63 hx63 h=>Jc3 R g0_0_0_0 hx63 U37 Z2<|Jb3 R I2 ((g0_0_0_0.stp<|T7 S3 S8 S12 S20 S37 S65 S78).gInt hx63)<|Jb 2 R ?_
 revert h
 cases ht85:(x63 !=p1)
 refine JF λh=>Jy R<|Js<|Jp<|Jg3 [2,2,2,1] 2 R<|Ob h λx110 hx110 h=>Jf R (Jf2 f67.rdc hx110 U178 Z4 R R hn68 R)<|Ob h λy135 hy135 h=>Jk1 (κ:=K77) (E:=Ep.bool) 2 [] R R R R R R R R Z4 R R R R (f67.stp S78) hy135 λw151 K152 S153 f154=>Tv<|?_
 have hn155:x19.length=y135.length:=hn68.trans (Jt2 hy135).2.2.2.symm
 refine Jd<|Jh3 [2,2,1,1,2] 2 R<|Jw3 (κ:=K152) (E:=E6) 7 [] (parts:=[(0,.tmp 112)]) (cells:=[vi x43]) (xs:=([x43]:List Int)) R Y37 bG R ⟨[vi x43],[],Zl K152 w151 [],Zl K152 w151 [],R,Zl.sp (l1:=[]) (l2:=[]) R,Zl.sr (l1:=[]) (l2:=[]),R,R⟩ λaC az w156 K157 S158 f159=>Tv<|Ob h λx114 hx114 h=>Jy3 (κ:=K157) (E:=E6) 6 [] R Y37 bG R (f66.stp<|T3 S78 S153 S158) (Sl.srcP (bP _) f159.rdc) bI hx114 R λal am w161 K162 S163 f164=>Tv<|Jc 1 R<|Jz<|Jp<|Jf3 R ?_
 have hw52:yC .i64 (v41+1)=v41+1:=wr1 hj52 (Jm2 hc52) hN52
 rw[hw52]
 have hc52:=Jm2 hc52
 cases h
 exact Jz1 λa ha=>⟨k,_,Ja3 _,⟨K162,v41+1,(x114,y135,s4.2.2),al,am,R,(T5 S65 S78 S153 S158 S163).wk R,f164,(f154.stp<|S158.tr S163),hn155,(f69.stp<|T4 S78 S153 S158 S163),hn70,by omega,by omega,hk71⟩,(ha.mm R)⟩
 refine JT λh=>Jx R<|Jq<|Jg3 [2,2,2,1,2] 2 R<|Ob h λx69 hx69 h=>Jf R (Jf2 f69.rdc hx69 U266 Z3 R R hn70 R) ?_
 have f86:=f69.stp S78
 refine Jb3 R I3 (f86.rdc.gInt hx69)<|Jb 1 R<|Ob h λq7 h hK87=>Jo3 [0,1,2,9,10,11,14,39,40,41] (λE L w'=>∃κ',L=E/\Stp [3] K77 w76 κ' w'/\Oc E6 3 κ' w' 3 aa ab q7/\x22.length=q7.length) ?_ ?_
 revert h
 cases ht93:(x69==0)
 refine JF λh=>Jy R<|Js ?_
 cases h
 exact Jw1 _ ⟨K77,R,Jj3,f86,hn70⟩<|KM R
 refine JT λh=>Jx R<|Jg3 [2,2,2,2,2,1,2,2,1,2,2] 1 R<|Jf R (cr R R)<|Jd3 R U193 R Z79<|Jd3 R U79 R Z75<|Jd3 R U75 R Z31<|Jb3 R I31 (f83.ld 1 R R)<|Jn 1 R<|Ob h λx79 hx79 h=>Jc3 R g0_0_0_1 hx79 U31 Z37 ?_
 obtain⟨ax79,ux79,f95,hl96⟩:=(g0_0_0_1.stp (T7 S3 S8 S12 S20 S37 S65 S78)).gSl hx79
 refine Jb3 R I37 hl96<|Jn3 R U37 R R<|Jb 1 R ?_
 have hN97:(x79.length:Int)<=9223372036854775807:=f95.len_le
 refine Ob h λq9 hq99 hK98=>?_
 clear h
 refine Jo3 [0,1,2,9,10,11,14,39,40,41] (λE L w'=>∃κ',∃s10:(List Int),L=E/\Stp [3] K77 w76 κ' w'/\Oc E6 3 κ' w' 3 aa ab s10/\x22.length=s10.length/\q9=yD s10) ?_ ?_
 refine Jv<|Jp3 [0,1,2,9,10,11,14,39,40,41,80,81] (λk E L w'=>∃κ' v82,∃s8:(List Int),L=(82,vi v82)::E/\Stp [3] K77 w76 κ' w'/\Oc E6 3 κ' w' 3 aa ab s8/\x22.length=s8.length/\0<=v82/\yG ((x79.length:Int)-v82)=k/\cntM (cO p2 x43 x79) k v82 s8=some q9) ⟨_,_,⟨K77,0,s4.2.2,R,Jj3,f86,hn70,(by decide),(by simp),hq99⟩,(KM R)⟩ ?_
 rintro k _ w105 ⟨K106,v82,s8,rfl,S107,f108,hn109,hj97,hJ97,h⟩
 rcases k with _ | k
 have hk110:=h;obtain⟨o97,h⟩:=bT (yD (yE s8):(List Bool)⊕(((List Int))⊕((List Int))))
 have hc97:decide (v82<(x79.length:Int))=false:=Jo2 (by omega)
 refine Je3 R<|Jq<|Jw2 R hc97<|Jc1<|Jt<|Jt ?_
 cases h
 have h:=hk110
 refine Jb1 ?_
 cases h
 exact Jw1 _ ⟨K106,s8,R,S107.wk R,f108,hn109,R⟩<|KM R
 obtain⟨o97,h,hk110⟩:=BI h;unfold cO at h
 have hc97:decide (v82<(x79.length:Int))=true:=Jn2 (by omega)
 refine Je3 R<|Jq<|Jv2 R hc97<|Js<|Jp<|Jq<|Jv<|Je [2,1,2] R<|Ob h λx84 hx84 h=>Jc3 R f95 hx84 U37 Z2<|Jb3 R I2 ((f95.stp S107).gInt hx84)<|Jb 1 R<|Jg3 [2,2,2,1] 2 R<|Ob h λx88 hx88 h=>Jc3 R g2 hx88 U178 Z4<|Jb3 R I4 ((g2.stp<|T8 S3 S8 S12 S20 S37 S65 S78 S107).gBool hx88)<|Jd<|Ob h λq11 h hK113=>Jo3 [0,1,2,9,10,11,14,39,40,41,80,81,82] (λE L w'=>∃κ',L=E/\Stp [3] K106 w105 κ' w'/\Oc E6 3 κ' w' 3 aa ab q11/\x22.length=q11.length) ?_ ?_
 revert h
 cases ht119:x88
 refine JF λh=>Jy R<|Js ?_
 cases h
 exact Jw1 _ ⟨K106,R,Jj3,f108,hn109⟩<|KM R
 refine JT λh=>Jx R<|Jh3 [2,2,2,1,2,2,1] 2 R<|Ob h λx92 hx92 h=>Jf R (Jf2 f108.rdc hx92 U266 Z3 R R hn109 R)<|Jb3 R I3 (f108.rdc.gInt hx92)<|Jn 1 R<|Ob h λx95 hx95 h=>Jf R (Jf2 f108.rdc hx95 U266 Z3 R R hn109 R)<|Ob h λy133 hy133 h=>Jk1 (κ:=K106) (E:=E6) 3 [] R R R R R R R R Z3 R R R R f108 hy133 λw120 K121 S122 f123=>Tv<|?_
 have hn124:x22.length=y133.length:=hn109.trans (Jt2 hy133).2.2.2.symm
 refine Jo ?_
 cases h
 exact Jw1 _ ⟨K121,R,S122.wk R,f123,hn124⟩<|KM R
 rintro _ w114 ⟨K115,rfl,S116,f117,hn118⟩
 have h:=hK113
 refine Jz<|Jp<|Jf3 R ?_
 have hw97:yC .i64 (v82+1)=v82+1:=wr1 hj97 (Jm2 hc97) hN97
 rw[hw97]
 have hc97:=Jm2 hc97
 cases h
 exact Jz1 λa ha=>⟨k,_,Ja3 _,⟨K115,v82+1,q11,R,(S107.tr S116).wk R,f117,hn118,by omega,by omega,hk110⟩,(ha.mm R)⟩
 rintro _ w100 ⟨K101,s10,rfl,S102,f103,hn104,rfl⟩
 have h:=yI hK98
 cases h
 exact Jw1 _ ⟨K101,R,S102.wk R,f103,hn104⟩<|KM R
 rintro _ w88 ⟨K89,rfl,S90,f91,hn92⟩
 have h:=hK87
 refine Jp<|Jg3 [2,2,2,1,2,2,1] 2 R<|Ob h λx99 hx99 h=>Jf R (Jf2 f91.rdc hx99 U266 Z3 R R hn92 R)<|Jb3 R I3 (f91.rdc.gInt hx99)<|Jn 1 R<|Ob h λx102 hx102 h=>Jf R (Jf2 f91.rdc hx102 U266 Z3 R R hn92 R)<|Ob h λy134 hy134 h=>Jk1 (κ:=K89) (E:=E6) 3 [] R R R R R R R R Z3 R R R R f91 hy134 λw125 K126 S127 f128=>Tv<|?_
 have hn129:x22.length=y134.length:=hn92.trans (Jt2 hy134).2.2.2.symm
 refine Jd<|Jg3 [2,2,2,1,2] 2 R<|Ob h λx105 hx105 h=>Jf R (Jf2 f128.rdc hx105 U266 Z3 R R hn129 R)<|Jb3 R I3 (f128.rdc.gInt hx105)<|Jb 1 R ?_
 revert h
 cases ht130:decide (0<x105)
 refine JF λh=>Jy R<|Js<|Jp<|Jg3 [2,2,2,1] 2 R<|Ob h λx110 hx110 h=>Jf R (Jf2 f67.rdc hx110 U178 Z4 R R hn68 R)<|Ob h λy135 hy135 h=>Jk1 (κ:=K126) (E:=Ep.bool) 2 [] R R R R R R R R Z4 R R R R (f67.stp<|T3 S78 S90 S127) hy135 λw134 K135 S136 f137=>Tv<|?_
 have hn138:x19.length=y135.length:=hn68.trans (Jt2 hy135).2.2.2.symm
 refine Jd<|Jh3 [2,2,1,1,2] 2 R<|Jw3 (κ:=K135) (E:=E6) 7 [] (parts:=[(0,.tmp 112)]) (cells:=[vi x43]) (xs:=([x43]:List Int)) R Y37 bG R ⟨[vi x43],[],Zl K135 w134 [],Zl K135 w134 [],R,Zl.sp (l1:=[]) (l2:=[]) R,Zl.sr (l1:=[]) (l2:=[]),R,R⟩ λaC az w139 K140 S141 f142=>Tv<|Ob h λx114 hx114 h=>Jy3 (κ:=K140) (E:=E6) 6 [] R Y37 bG R (f66.stp<|T5 S78 S90 S127 S136 S141) (Sl.srcP (bP _) f142.rdc) bI hx114 R λal am w144 K145 S146 f147=>Tv<|Jc 1 R<|Jz<|Jp<|Jf3 R ?_
 have hw52:yC .i64 (v41+1)=v41+1:=wr1 hj52 (Jm2 hc52) hN52
 rw[hw52]
 have hc52:=Jm2 hc52
 cases h
 exact Jz1 λa ha=>⟨k,_,Ja3 _,⟨K145,v41+1,(x114,y135,y134),al,am,R,(T7 S65 S78 S90 S127 S136 S141 S146).wk R,f147,(f137.stp<|S141.tr S146),hn138,(f128.stp<|T3 S136 S141 S146),hn129,by omega,by omega,hk71⟩,(ha.mm R)⟩
 refine JT λh=>Jx R<|Jc1<|Jt<|Jb1<|Jp<|Jf3 R ?_
 have hw52:yC .i64 (v41+1)=v41+1:=wr1 hj52 (Jm2 hc52) hN52
 rw[hw52]
 have hc52:=Jm2 hc52
 cases h
 exact Jz1 λa ha=>⟨k,_,Ja3 _,⟨K126,v41+1,(s4.1,s4.2.1,y134),ae,ad,R,(T4 S65 S78 S90 S127).wk R,(f66.stp<|T3 S78 S90 S127),(f67.stp<|T3 S78 S90 S127),hn68,f128,hn129,by omega,by omega,hk71⟩,(ha.mm R)⟩
 refine JT λh=>Jx R<|Jc1<|Jt<|Jb1<|Jp<|Jf3 R ?_
 have hw52:yC .i64 (v41+1)=v41+1:=wr1 hj52 (Jm2 hc52) hN52
 rw[hw52]
 have hc52:=Jm2 hc52
 cases h
 exact Jz1 λa ha=>⟨k,_,Ja3 _,⟨K77,v41+1,(s4.1,s4.2.1,s4.2.2),ae,ad,R,(S65.tr S78).wk R,(f66.stp S78),(f67.stp S78),hn68,(f69.stp S78),hn70,by omega,by omega,hk71⟩,(ha.mm R)⟩
 rintro _ w55 ⟨K56,s6,ak,aj,rfl,S57,f58,f59,hn60,f61,hn62,rfl⟩
 have h:=yI hK53
 refine Jz ?_
 cases h
 exact Jz1 λa ha=>⟨k,_,Ja3 _,⟨K56,(s6.1,s6.2.1,s6.2.2),ak,aj,R,(S37.tr S57).wk R,f58,f59,hn60,f61,hn62,hk45⟩,(ha.mm R)⟩
 rintro _ w27 ⟨K28,s3,ar,av,rfl,S29,f30,f31,hn32,f33,hn34,rfl⟩
 have h:=yI hK25
 refine Jp<|Je3 R<|Ju<|Ja2 (l:=[.tmp 8]) V244 (Jp2 R R) R ?_
 cases h
 exact⟨K28,af,ai,(by simp only[hn32]),(hE.stp<|T5 S3 S8 S12 S20 S29),f31⟩
theorem eO {a0 u0}{p0:(List Bool)}{p1:Bool}(g0:Rd Rp.bool κ w 0 a0 u0 p0){r:Bool}(h:cn p0 p1=some r):Ret Tryz.prog 245 [.slice a0 p0.length u0,.bool p1] w (Pvb κ w r):=by
 unfold cn at h
 refine Jk3 κ F245 R N245 R λhE=>Je3 R<|Jg3 [2,2,1,2,2] 2 R<|Ob h λx7 hx7 h=>Jr3 R C267 (kg (κ:=Mk κ) (Ji3 g0) hx7) ?_
 rintro _ w1 ⟨k2,rfl,e3⟩
 obtain⟨K4,S5,m6⟩:=Ji e3 2 R
 refine Tv<|Jb 2 R<|Ju<|Ja2 (l:=[.tmp 4]) V245 (Jp2 R R) R ?_
 cases h
 exact⟨K4,R,(hE.stp S5)⟩
theorem nQ {ac ab ad aa}{p0:Arena}(g0_0:Rd (Rp.int .i64) κ w 0 ac ab p0.Owner) (g0_1:Rd (Rp.sl (Rp.int .i64)) κ w 0 ad aa p0.Next){r:Bool}(h:jC p0=some r):Ret Tryz.prog 182 [.agg #[.slice ac p0.Owner.length ab,.slice ad p0.Next.length aa]] w (Pvb κ w r):=by
 unfold jC at h
 refine Jk3 κ F182 R N182 R λhE=>Je [1,2] R<|Js3 (κ:=κ) 2 R λb1 w1 K2 S3 f4=>Tv<|Jb 1 R<|Je [2,1,2,2] R<|Jd3 R U75 R Z37<|Jb3 R I37 (f4.ld 0 R R)<|Jn3 R U37 R R<|Jb 1 R<|Jq<|Jg3 [2,2,2,2,2,2,2,2,1,2,2,2,2] 3 R<|Ob h λp14 h hK5=>Jq3 [1,3] (λE L w'=>L=(14,.bool p14)::E/\∃κ',Stp [] K2 w1 κ' w') [(3,2),(4,2),(5,2)] [(6,2),(7,2),(8,1),(9,2),(10,2),(11,2),(12,2)] tv ?_ ?_
 revert h
 cases ht6:decide ((p0.Owner.length:Int)<1)
 refine JF λh=>Jn 3 R ?_
 cases h
 exact Jv1 _ tv ⟨R,_,Jj3⟩<|KM R
 refine JT λh=>Jn 3 R ?_
 cases h
 exact Jv1 _ tv ⟨R,_,Jj3⟩<|KM R
 rintro _ w7 _ ⟨rfl,K8,S9⟩
 have h:=hK5
 refine Jn 1 R<|Ob h λp21 h hK10=>Jq3 [1,3] (λE L w'=>L=(21,.bool p21)::E/\∃κ',Stp [] K8 w7 κ' w') [(7,2),(8,1),(9,2),(10,2),(11,2),(12,2)] [] tv ?_ ?_
 revert h
 cases ht11:p14
 refine JF λh=>Jd3 R U75 R Z31<|Jb3 R I31 ((f4.stp S9).ld 1 R R)<|Jn3 R U31 R R<|Jn 3 R ?_
 cases h
 exact Jv1 _ tv ⟨R,_,Jj3⟩<|KM R
 refine JT λh=>Jn 1 R<|Jz3 R<|Jn 4 R ?_
 cases h
 exact Jv1 _ tv ⟨R,_,Jj3⟩<|KM R
 rintro _ w13 _ ⟨rfl,K14,S15⟩
 have h:=hK10
 refine Jd ?_
 revert h
 cases ht16:p21
 refine JF λh=>Jy R<|Js<|Jp<|Jq<|Je [2,1,2,2] R<|Jd3 R U75 R Z31 ?_
 have f18:=f4.stp (S9.tr S15)
 refine Jb3 R I31 (f18.ld 1 R R)<|Jn3 R U31 R R<|Jb 1 R ?_
 have hN19:(p0.Next.length:Int)<=9223372036854775807:=g0_1.len_le
 refine Ob h λq2 hq21 hK20=>?_
 clear h
 refine Jx1 (λL w'=>∃κ',L=[]/\Stp [] K14 w13 κ' w'/\q2=yD ()) ?_ ?_
 refine Jv<|Jp3 [1,3,23,24] (λk E L w'=>∃κ' v25,L=(25,vi v25)::E/\Stp [] K14 w13 κ' w'/\0<=v25/\yG ((p0.Next.length:Int)-v25)=k/\cntM (gQ p0) k v25 ()=some q2) ⟨_,_,⟨K14,0,R,Jj3,(by decide),(by simp),hq21⟩,(KM R)⟩ ?_
 rintro k _ w25 ⟨K26,v25,rfl,S27,hj19,hJ19,h⟩
 rcases k with _ | k
 have hk28:=h;obtain⟨o19,h⟩:=bT (yD (yE ()):Bool⊕((Unit)⊕(Unit)))
 have hc19:decide (v25<(p0.Next.length:Int))=false:=Jo2 (by omega)
 refine Je3 R<|Jq<|Jw2 R hc19<|Jc1<|Jt<|Jt ?_
 cases h
 have h:=hk28
 refine Jb1 ?_
 cases h
 exact Jw1 _ ⟨K26,R,S27.wk R,R⟩ KN
 obtain⟨o19,h,hk28⟩:=BI h;unfold gQ at h
 have hc19:decide (v25<(p0.Next.length:Int))=true:=Jn2 (by omega)
 refine Je3 R<|Jq<|Jv2 R hc19<|Js<|Jp<|Jq<|Jv<|Jg3 [2,2,1,2,2] 1 R<|Ob h λx28 hx28 h=>Jc3 R g0_1 hx28 U31 Z37 ?_
 obtain⟨ax28,ux28,f30,hl31⟩:=(g0_1.stp (T4 S3 S9 S15 S27)).gSl hx28
 refine Jb3 R I37 hl31<|Jb 2 R<|Je [2,1,2,2,1,2,2,2,1,2,2,1,2,2,2,2,2,2,2,2,2,2,2,2,2,2,2,1,2,2] R<|Jd3 R U75 R Z37 ?_
 have f32:=f18.stp S27
 refine Jb3 R I37 (f32.ld 0 R R)<|Jn 1 R<|Ob h λx33 hx33 h=>Jc3 R g0_0 hx33 U37 Z2 ?_
 have f33:=g0_0.stp (T4 S3 S9 S15 S27)
 refine Jb3 R I2 (f33.gInt hx33)<|Jn 2 R<|Ob h λp43 h hK34=>Jq3 [1,3,5,23,24,25] (λE L w'=>L=(43,.bool p43)::E/\∃κ',Stp [] K26 w25 κ' w') [(7,2),(8,1),(9,2),(10,2),(11,1),(12,2),(13,2)] [(14,2),(15,2),(16,2),(17,2),(18,2),(19,2),(20,2),(21,2),(22,2),(23,2),(24,2),(25,2),(26,2),(27,1),(28,2),(29,2)] tv ?_ ?_
 revert h
 cases ht35:decide (x33<0)
 refine JF λh=>Jd3 R U75 R Z37<|Jb3 R I37 (f32.ld 0 R R)<|Jn 1 R<|Ob h λx40 hx40 h=>Jc3 R f33 hx40 U37 Z2<|Jb3 R I2 (f33.gInt hx40)<|Jn 2 R ?_
 cases h
 exact Jv1 _ tv ⟨R,_,Jj3⟩<|KM R
 refine JT λh=>Jn 1 R<|Jz3 R<|Jn 2 R<|Jz3 R<|Jn 2 R ?_
 cases h
 exact Jv1 _ tv ⟨R,_,Jj3⟩<|KM R
 rintro _ w36 _ ⟨rfl,K37,S38⟩
 have h:=hK34
 refine Jn 1 R<|Ob h λp48 h hK39=>Jq3 [1,3,5,23,24,25] (λE L w'=>L=(48,.bool p48)::E/\∃κ',Stp [] K37 w36 κ' w') [(15,2),(16,2),(17,2),(18,2)] [(19,2),(20,2),(21,2),(22,2),(23,2),(24,2),(25,2),(26,2),(27,1),(28,2),(29,2)] tv ?_ ?_
 revert h
 cases ht40:p43
 refine JF λh=>Jn 1 R<|Jn3 R U37 R R<|Jn 2 R ?_
 cases h
 exact Jv1 _ tv ⟨R,_,Jj3⟩<|KM R
 refine JT λh=>Jn 4 R ?_
 cases h
 exact Jv1 _ tv ⟨R,_,Jj3⟩<|KM R
 rintro _ w41 _ ⟨rfl,K42,S43⟩
 have h:=hK39
 refine Jn 1 R<|Ob h λp53 h hK44=>Jq3 [1,3,5,23,24,25] (λE L w'=>L=(53,.bool p53)::E/\∃κ',Stp [] K42 w41 κ' w') [(20,2),(21,2),(22,2),(23,2)] [(24,2),(25,2),(26,2),(27,1),(28,2),(29,2)] tv ?_ ?_
 revert h
 cases ht45:p48
 refine JF λh=>Jn 1 R<|Jn3 R U37 R R<|Jn 2 R ?_
 cases h
 exact Jv1 _ tv ⟨R,_,Jj3⟩<|KM R
 refine JT λh=>Jn 4 R ?_
 cases h
 exact Jv1 _ tv ⟨R,_,Jj3⟩<|KM R
 rintro _ w46 _ ⟨rfl,K47,S48⟩
 have h:=hK44
 refine Jn 1 R<|Ob h λp59 h hK49=>Jq3 [1,3,23,24,25] (λE L w'=>L=(59,.bool p59)::E/\∃κ',Stp [] K47 w46 κ' w') [(25,2),(26,2),(27,1),(28,2),(29,2)] [] tv ?_ ?_
 revert h
 cases ht50:p53
 refine JF λh=>Jn 2 R<|Ob h λx57 hx57 h=>Jr3 R C195 (jR (κ:=Mk K47) (Ji3<|f30.stp<|T3 S38 S43 S48) hx57) ?_
 rintro _ w52 ⟨k53,rfl,e54⟩
 obtain⟨K55,S56,m57⟩:=Ji e54 3 R
 refine Tv<|Jn 2 R ?_
 cases h
 exact Jv1 _ tv ⟨R,_,S56.wk R⟩<|KM R
 refine JT λh=>Jn 2 R<|Jz3 R<|Jn 2 R ?_
 cases h
 exact Jv1 _ tv ⟨R,_,Jj3⟩<|KM R
 rintro _ w59 _ ⟨rfl,K60,S61⟩
 have h:=hK49
 refine Jd ?_
 revert h
 cases ht62:p59
 refine JF λh=>Jy R<|Js<|Jz<|Jp<|Jf3 R ?_
 have hw19:yC .i64 (v25+1)=v25+1:=wr1 hj19 (Jm2 hc19) hN19
 rw[hw19]
 have hc19:=Jm2 hc19
 cases h
 exact Jz1 λa ha=>⟨k,_,Ja3 _,⟨K60,v25+1,R,(T5 S27 S38 S43 S48 S61).wk R,by omega,by omega,hk28⟩,(ha.mm R)⟩
 refine JT λh=>Jx R<|Je3 R<|Ju<|Ja1<|Jw<|Jw ?_
 cases h
 obtain rfl:=Option.some.inj hk28
 have h:=yL hK20
 refine Ja1<|Jq2<|Jw<|Ja2 (l:=[.tmp 2]) V182 (Jp2 R R) R ?_
 cases h
 exact⟨K60,R,(hE.stp<|T8 S3 S9 S15 S27 S38 S43 S48 S61)⟩
 rintro _ w22 ⟨K23,rfl,S24,rfl⟩
 have h:=yI hK20
 refine Jp<|Je3 R<|Ju<|Ja2 (l:=[.tmp 2]) V182 (Jp2 R R) R ?_
 cases h
 exact⟨K23,R,(hE.stp<|T4 S3 S9 S15 S24)⟩
 refine JT λh=>Jx R<|Je3 R<|Ju<|Jw<|Ja2 (l:=[.tmp 2]) V182 (Jp2 R R) R ?_
 cases h
 exact⟨K14,R,(hE.stp<|T3 S3 S9 S15)⟩
theorem qf {ad ac ae af}{p0:Arena}(g0_0:Rd (Rp.int .i64) κ w 0 ad ac p0.Owner) (g0_1:Rd (Rp.sl (Rp.int .i64)) κ w 0 ae af p0.Next){r:Arena}(h:jn p0=some r):Ret Tryz.prog 268 [.agg #[.slice ad p0.Owner.length ac,.slice ae p0.Next.length af]] w (λv w'=>∃(κ':Col) (ra0:Option Addr) (ru0:Nat) (ra1:Option Addr) (ru1:Nat),v= .agg #[.slice ra0 r.Owner.length ru0,.slice ra1 r.Next.length ru1]/\Ent κ w κ' w'/\Oc E6 2 κ' w' 2 ra0 ru0 r.Owner/\Oc (Ep.own E6 2) 37 κ' w' 3 ra1 ru1 r.Next):=by
 unfold jn at h
 refine Jk3 κ F268 R N268 R λhE=>Je [1,1] R<|Js3 (κ:=κ) 2 R λb1 w1 K2 S3 f4=>Tv<|Jt3 (κ:=K2) 3 R X75 R λb2 w5 K6 S7 f8=>Tv<|Jd<|Jq<|Js1 (κ:=K6) [2] none [(1,2),(4,2),(2,0),(5,0),(0,1),(3,1),(6,1),(7,2),(8,1)] [] (by kernel_rfl) (by kernel_rfl) λw10 S9=>Jd3 R U75 R Z37<|Jd3 R U75 R Z31 ?_
 have f11:=f4.stp (S7.tr S9)
 refine Jg R (Jc2 I37 R R<|hvC (f11.ld 0 R R) R)<|Jg R (Jc2 I31 R R<|hvC (f11.ld 1 R R) R)<|Jx3 (κ:=K6) (E:=E6) 4 R Y37 bG R λa3 u3 w12 K13 S14 f15=>⟨(S14.cl R),Ob h λx6 hx6 h=>Jy3 (κ:=K13) (E:=E6) 4 [] R Y37 bG R f15 (Sl.srcP (bP _)<|g0_0.stp<|T4 S3 S7 S9 S14) bI hx6 R λa6 u6 w17 K18 S19 f20=>⟨((S14.tr S19).cl R),Ob h λx9 hx9 h=>Jr3 R C283 (pJ (κ:=Mk K18) (Ji3<|g0_1.stp<|T5 S3 S7 S9 S14 S19) hx9) ?_⟩⟩
 rintro _ w22 ⟨k23,aa,ab,rfl,e24,f25⟩
 obtain⟨K26,S27,m28⟩:=Ji e24 5 R
 refine⟨((T3 S14 S19 S27).cl R),Jf R (bK (parts:=[(0,.tmp 6),(1,.tmp 9)]) (cells:=[.slice a6 x6.length u6,.slice aa x9.length ab]) R R (by kernel_rfl))<|Jv3 (κ:=K26) 3 (vc:=[.slice a6 x6.length u6,.slice aa x9.length ab]) R Z75 R (f8.stp<|T4 S9 S14 S19 S27) R λw32 S33 f34=>⟨((T4 S14 S19 S27 S33).cl R),Jt1<|Jd<|Ju<|Ja2 (l:=[.cell 2 75]) V268 (bM R f34 I75 Z75 R R) R ?_⟩⟩
 cases h
 exact⟨(λb=>ren [(4,2),(7,3)]<|K26 b),a6,u6,aa,ab,R,((hE.stp<|T7 S3 S7 S9 S14 S19 S27 S33).map (ren [(4,2),(7,3)]) R R),((f20.stp<|S27.tr S33).map (ren [(4,2),(7,3)]) R R),(((f25.mx (cR (bL _) _) m28 R (R:5+2=7)).stp S33).map (ren [(4,2),(7,3)]) R R)⟩
theorem m9 {a0 u0}{p0:(List Pair)}{p1:Int}(g0:Rd Pair.rp κ w 0 a0 u0 p0){r:Bool}(h:iD p0 p1=some r):Ret Tryz.prog 185 [.slice a0 p0.length u0,vi p1] w (Pvb κ w r):=by
 unfold iD at h
 refine Jk3 κ F185 R N185 R λhE=>Je3 R<|Jq<|Jg3 [2,2,2] 1 R<|Jn3 R U69 R R<|Jb 1 R ?_
 have hN1:(p0.length:Int)<=9223372036854775807:=g0.len_le
 refine Ob h λq2 hq3 hK2=>?_
 clear h
 refine Jo3 [0] (λE L w'=>∃κ',L=E/\Stp [2] κ w κ' w'/\q2=yD ()) ?_ ?_
 refine Jv<|Jp3 [0,1,7,8] (λk E L w'=>∃κ' v9,L=(9,vi v9)::E/\Stp [2] κ w κ' w'/\0<=v9/\yG ((p0.length:Int)-v9)=k/\cntM (ga p0 p1) k v9 ()=some q2) ⟨_,_,⟨κ,0,R,Jj3,(by decide),(by simp),hq3⟩,(KM R)⟩ ?_
 rintro k _ w7 ⟨K8,v9,rfl,S9,hj1,hJ1,h⟩
 rcases k with _ | k
 have hk10:=h;obtain⟨o1,h⟩:=bT (yD (yE ()):Bool⊕((Unit)⊕(Unit)))
 have hc1:decide (v9<(p0.length:Int))=false:=Jo2 (by omega)
 refine Je3 R<|Jq<|Jw2 R hc1<|Jc1<|Jt<|Jt ?_
 cases h
 have h:=hk10
 refine Jb1 ?_
 cases h
 exact Jw1 _ ⟨K8,R,S9.wk R,R⟩<|KM R
 obtain⟨o1,h,hk10⟩:=BI h;unfold ga at h
 have hc1:decide (v9<(p0.length:Int))=true:=Jn2 (by omega)
 refine Je3 R<|Jq<|Jv2 R hc1<|Js<|Jp<|Jq<|Jv<|Je [2,1,1,1] R<|Ob h λx11 hx11 h=>Jc3 R g0 hx11 U69 Z127 ?_
 obtain⟨cse12,hre12,hle12⟩:=((g0.stp S9)).gSt hx11
 obtain⟨ae12_0,ue12_0,ae12_1,ue12_1,rfl,fe12_0,fe12_1⟩:=Pair.un hre12
 refine Jb4 tv R (Jc4 (haE hle12) I127 Z127 R)<|Jt3 (κ:=K8) 2 R X127 R λb6 w13 K14 S15 f16=>Tv<|Jv3 (κ:=K14) 2 (vc:=[.slice ae12_0 x11.Ask.length ue12_0,.slice ae12_1 x11.Give.length ue12_1]) R Z127 R f16 R λw17 S18 f19=>Tv<|Jd<|Je [2,1,2,1,2,2,2,1,2,1,2,2] R<|Jd3 R U127 R Z37<|Jb3 R I37 (f19.ld 0 R R)<|Jn 1 R<|Ob h λx16 hx16 h=>Jr3 R C195 (jR (κ:=Mk K14) (Ji3<|fe12_0.stp<|S15.tr S18) hx16) ?_
 rintro _ w21 ⟨k22,rfl,e23⟩
 obtain⟨K24,S25,m26⟩:=Ji e23 3 R
 refine Tv<|Jn 2 R<|Ob h λp24 h hK28=>Jq3 [0,1,7,8,9] (λE L w'=>L=(24,.bool p24)::E/\∃κ',Stp [] K24 w21 κ' w') [(6,2),(7,1),(8,2),(9,1),(10,2),(11,2)] [] tv ?_ ?_
 revert h
 cases ht29:(!x16)
 refine JF λh=>Jd3 R U127 R Z37<|Jb3 R I37 ((f19.stp S25).ld 1 R R)<|Jn 1 R<|Ob h λx22 hx22 h=>Jr3 R C195 (jR (κ:=Mk K24) (Ji3<|fe12_1.stp<|T3 S15 S18 S25) hx22) ?_
 rintro _ w32 ⟨k33,rfl,e34⟩
 obtain⟨K35,S36,m37⟩:=Ji e34 5 R
 refine Tv<|Jn 2 R ?_
 cases h
 exact Jv1 _ tv ⟨R,_,S36.wk R⟩<|KM R
 refine JT λh=>Jn 1 R<|Jz3 R<|Jn 1 R<|Jz3 R<|Jn 2 R ?_
 cases h
 exact Jv1 _ tv ⟨R,_,Jj3⟩<|KM R
 rintro _ w39 _ ⟨rfl,K40,S41⟩
 have h:=hK28
 refine Jd ?_
 revert h
 cases ht42:p24
 refine JF λh=>Jy R<|Js<|Jz<|Jp<|Jf3 R ?_
 have hw1:yC .i64 (v9+1)=v9+1:=wr1 hj1 (Jm2 hc1) hN1
 rw[hw1]
 have hc1:=Jm2 hc1
 cases h
 exact Jz1 λa ha=>⟨k,_,Ja3 _,⟨K40,v9+1,R,(T5 S9 S15 S18 S25 S41).wk R,by omega,by omega,hk10⟩,(ha.mm R)⟩
 refine JT λh=>Jx R<|Je3 R<|Ju<|Ja1<|Jw<|Jw ?_
 cases h
 obtain rfl:=Option.some.inj hk10
 have h:=yL hK2
 refine Ja1<|Jq2<|Jw<|Ja2 (l:=[.tmp 4]) V185 (Jp2 R R) R ?_
 cases h
 exact⟨K40,R,(hE.stp<|T5 S9 S15 S18 S25 S41)⟩
 rintro _ w4 ⟨K5,rfl,S6,rfl⟩
 have h:=yI hK2
 refine Jp<|Jg3 [2,2,2,2] 1 R<|Jn3 R U69 R R<|Jb 2 R<|Ju<|Ja2 (l:=[.tmp 4]) V185 (Jp2 R R) R ?_
 cases h
 exact⟨K5,R,(hE.stp S6)⟩
theorem m5 {a0 u0}{p0:(List Pair)}{a1 u1}{p1:(List (List Int))}{p2:Int}(g0:Rd Pair.rp κ w 0 a0 u0 p0) (g1:Rd (Rp.sl (Rp.int .i64)) κ w 0 a1 u1 p1){r:(List Pair)}(h:iK p0 p1 p2=some r):Ret Tryz.prog 98 [.slice a0 p0.length u0,.slice a1 p1.length u1,vi p2] w (Pvs Pair.ep127 127 κ w r):=by
 unfold iK at h
 refine Jk3 κ F98 R N98 R λhE=>Je3 R<|Je [1,2] R<|Jx3 (κ:=κ) (E:=Pair.ep127) 2 R Y69 cw R λay aA w1 K2 S3 f4=>Tv<|Jb 1 R<|Jq<|Je3 R ?_
 have hN5:(p0.length:Int)<=9223372036854775807:=g0.len_le
 refine Ob h λq2 hq7 hK6=>?_
 clear h
 refine Jx1 (λL w'=>∃κ',∃s3:(List Pair),∃an ap,L=[(7,.slice an s3.length ap)]/\Stp [2,3,4,5,6] K2 w1 κ' w'/\Oc Pair.ep127 127 κ' w' 2 an ap s3/\q2=yD s3) ?_ ?_
 refine Jv<|Jp3 [0,1,2] (λk E L w'=>∃κ' v8,∃s1:(List Pair),∃aq am,L=(7,.slice aq s1.length am)::(8,vi v8)::E/\Stp [2,3,4,5,6] K2 w1 κ' w'/\Oc Pair.ep127 127 κ' w' 2 aq am s1/\0<=v8/\yG ((p0.length:Int)-v8)=k/\cntM (gk p0 p1 p2) k v8 s1=some q2) ⟨_,_,⟨K2,0,(([]:List Pair):(List Pair)),ay,aA,R,Jj3,f4,(by decide),(by simp),hq7⟩,(KM R)⟩ ?_
 rintro k _ w12 ⟨K13,v8,s1,aq,am,rfl,S14,f15,hj5,hJ5,h⟩
 rcases k with _ | k
 have hk16:=h;obtain⟨o5,h⟩:=bT (yD (yE s1):(List Pair)⊕(((List Pair))⊕((List Pair))))
 have hc5:decide (v8<(p0.length:Int))=false:=Jo2 (by omega)
 refine Jq<|Jg3 [2,2,2,2] 2 R<|Jn3 R U69 R R<|Jb 1 R<|Jw2 R hc5<|Jc1<|Jt<|Jt ?_
 cases h
 have h:=hk16
 refine Jb1 ?_
 cases h
 exact Jw1 _ ⟨K13,s1,aq,am,R,S14.wk R,f15,R⟩<|KM R
 obtain⟨o5,h,hk16⟩:=BI h;unfold gk at h
 have hc5:decide (v8<(p0.length:Int))=true:=Jn2 (by omega)
 refine Jq<|Jg3 [2,2,2,2] 2 R<|Jn3 R U69 R R<|Jb 1 R<|Jv2 R hc5<|Js<|Jp<|Jq<|Jv<|Je [2,1,1] R<|Jf R (bK (parts:=[]) (cells:=[.slice none 0 0,.slice none 0 0]) R R (by kernel_rfl))<|Jt3 (κ:=K13) 3 R X127 R λb9 w17 K18 S19 f20=>Tv<|Jv3 (κ:=K18) 3 (vc:=[.slice none 0 0,.slice none 0 0]) R Z127 R f20 R λw21 S22 f23=>Tv<|Jd<|Jq<|Je3 R ?_
 have hN24:(p1.length:Int)<=9223372036854775807:=g1.len_le
 refine Ob h λq5 hq26 hK25=>?_
 clear h
 refine Jo3 [0,1,2,7,8,9] (λE L w'=>∃κ',∃s6:(List Int)×(List Int),∃ai ah af ad,L=E/\Stp [3,4,5] K18 w21 κ' w'/\Oc E6 2 κ' w' 4 ai ah s6.1/\Oc E6 2 κ' w' 5 af ad s6.2/\Bc κ' w' 3 b9 127 [.slice ai s6.1.length ah,.slice af s6.2.length ad]/\q5=yD s6) ?_ ?_
 refine Jv<|Jp3 [0,1,2,7,8,9] (λk E L w'=>∃κ' v10,∃s4:(List Int)×(List Int),∃ak aj aa ab,L=(10,vi v10)::E/\Stp [3,4,5] K18 w21 κ' w'/\Oc E6 2 κ' w' 4 ak aj s4.1/\Oc E6 2 κ' w' 5 aa ab s4.2/\Bc κ' w' 3 b9 127 [.slice ak s4.1.length aj,.slice aa s4.2.length ab]/\0<=v10/\yG ((p1.length:Int)-v10)=k/\cntM (fX p0 p1 p2 v8) k v10 s4=some q5) ⟨_,_,⟨K18,0,((([]:List Int):(List Int)),(([]:List Int):(List Int))),none,0,none,0,R,Jj3,Ow.nil,Ow.nil,f23,(by decide),(by simp),hq26⟩,(KM R)⟩ ?_
 rintro k _ w33 ⟨K34,v10,s4,ak,aj,aa,ab,rfl,S35,f36,f37,f38,hj24,hJ24,h⟩
 rcases k with _ | k
 have hk39:=h;obtain⟨o24,h⟩:=bT (yD (yE s4):(List Pair)⊕(((List Int)×(List Int))⊕((List Int)×(List Int))))
 have hc24:decide (v10<(p1.length:Int))=false:=Jo2 (by omega)
 refine Jq<|Jg3 [2,2,2,2] 2 R<|Jn3 R U31 R R<|Jb 1 R<|Jw2 R hc24<|Jc1<|Jt<|Jt ?_
 cases h
 have h:=hk39
 refine Jb1 ?_
 cases h
 exact Jw1 _ ⟨K34,(s4.1,s4.2),ak,aj,aa,ab,R,S35.wk R,f36,f37,f38,R⟩<|KM R
 obtain⟨o24,h,hk39⟩:=BI h;unfold fX at h
 have hc24:decide (v10<(p1.length:Int))=true:=Jn2 (by omega)
 refine Jq<|Jg3 [2,2,2,2] 2 R<|Jn3 R U31 R R<|Jb 1 R<|Jv2 R hc24<|Js<|Jp<|Jq<|Jv<|Jq<|Jq<|Js1 (κ:=K34) [0] none [(0,2),(1,2),(2,2),(3,2),(5,2),(6,2),(7,2),(9,2),(4,0),(8,0),(10,2),(11,0),(12,1)] [] (by kernel_rfl) (by kernel_rfl) λw41 S40=>Jn 2 R<|Ob h λx27 hx27 h=>Jc3 R g0 hx27 U69 Z127<|Jd3 R U127 R Z37<|Jn 2 R<|Ob h λx32 hx32 h=>Jc3 R g1 hx32 U31 Z37<|Jn 1 R ?_
 have f42:=g0.stp (T6 S3 S14 S19 S22 S35 S40)
 obtain⟨cse43,hre43,hle43⟩:=(f42).gSt hx27
 obtain⟨ae43_0,ue43_0,ae43_1,ue43_1,rfl,fe43_0,fe43_1⟩:=Pair.un hre43
 refine Jg R (Jc2 I37 R R<|hvC (λw' hw'=>hle43 w' hw' 0 _ R) R) ?_
 have f44:=g1.stp (T6 S3 S14 S19 S22 S35 S40)
 obtain⟨ax32,ux32,f45,hl46⟩:=f44.gSl hx32
 refine Jg R (Jc2 I37 R R<|hvC hl46 R)<|Ob h λx35 hx35 h=>Jc3 R f45 hx35 U37 Z2<|Jg R (Jc2 I2 R R<|hvC (f45.gInt hx35) R)<|Ob h λx37 hx37 h=>Jr3 R C81 (dK (κ:=Mk K34) (Ji3 fe43_0) hx37) ?_
 rintro _ w47 ⟨k48,rfl,e49⟩
 obtain⟨K50,S51,m52⟩:=Ji e49 6 R
 refine⟨(S51.cl R),Jt1<|Jd<|Ob h λq7 h hK54=>Jo3 [0,1,2,7,8,9,10] (λE L w'=>∃κ' ae ac,L=E/\Stp [3,4] K50 w47 κ' w'/\Oc E6 2 κ' w' 4 ae ac q7/\Bc κ' w' 3 b9 127 [.slice ae q7.length ac,.slice aa s4.2.length ab]) ?_ ?_⟩
 revert h
 cases ht60:x37
 refine JF λh=>Jy R<|Js ?_
 cases h
 exact Jw1 _ ⟨K50,ak,aj,R,Jj3,(f36.stp<|S40.tr S51),(f38.stp<|S40.tr S51)⟩<|KM R
 refine JT λh=>Jx R<|Ja [2,1,2,1,1,2,1] R<|Jd3 R U127 R Z37 ?_
 have f61:=f38.stp (S40.tr S51)
 refine Jb3 R I37 (f61.ld 0 R R)<|Jn 1 R<|Jw3 (κ:=K50) (E:=E6) 8 [] (parts:=[(0,.tmp 40)]) (cells:=[vi v10]) (xs:=([v10]:List Int)) R Y37 bG R ⟨[vi v10],[],Zl K50 w47 [],Zl K50 w47 [],R,Zl.sp (l1:=[]) (l2:=[]) R,Zl.sr (l1:=[]) (l2:=[]),R,R⟩ λaE aB w62 K63 S64 f65=>Tv<|Ob h λx42 hx42 h=>Jy3 (κ:=K63) (E:=E6) 4 [] R Y37 bG R (f36.stp<|T3 S40 S51 S64) (Sl.srcP (bP _) f65.rdc) bI hx42 R λau av w67 K68 S69 f70=>Tv<|Jd3 R U127 R Z37<|Ju3 (κ:=K68) 3 (off:=0) (vc:=[.slice au x42.length av]) (cs':=[.slice au x42.length av,.slice aa s4.2.length ab]) R Z37 R (f61.stp<|S64.tr S69) R λw72 S73 f74=>Tv<|Jo ?_
 cases h
 exact Jw1 _ ⟨K68,au,av,R,(T3 S64 S69 S73).wk R,(f70.stp S73),f74⟩<|KM R
 rintro _ w55 ⟨K56,ae,ac,rfl,S57,f58,f59⟩
 have h:=hK54
 refine Jp<|Jq<|Js1 (κ:=K56) [0] none [(0,2),(1,2),(2,2),(3,2),(5,2),(6,2),(7,2),(9,2),(4,0),(8,0),(10,2),(11,0),(12,1)] [] (by kernel_rfl) (by kernel_rfl) λw79 S78=>Jn 2 R<|Ob h λx46 hx46 h=>Jc3 R f42 hx46 U69 Z127<|Jd3 R U127 R Z37<|Jn 2 R<|Ob h λx51 hx51 h=>Jc3 R f44 hx51 U31 Z37<|Jn 1 R ?_
 obtain⟨cse81,hre81,hle81⟩:=((f42.stp (T3 S51 S57 S78))).gSt hx46
 obtain⟨ae81_0,ue81_0,ae81_1,ue81_1,rfl,fe81_0,fe81_1⟩:=Pair.un hre81
 refine Jg R (Jc2 I37 R R<|hvC (λw' hw'=>hle81 w' hw' 1 _ R) R) ?_
 obtain⟨ax51,ux51,f83,hl84⟩:=(f44.stp (T3 S51 S57 S78)).gSl hx51
 refine Jg R (Jc2 I37 R R<|hvC hl84 R)<|Ob h λx54 hx54 h=>Jc3 R f83 hx54 U37 Z2<|Jg R (Jc2 I2 R R<|hvC (f83.gInt hx54) R)<|Ob h λx56 hx56 h=>Jr3 R C81 (dK (κ:=Mk K56) (Ji3 fe81_1) hx56) ?_
 rintro _ w85 ⟨k86,rfl,e87⟩
 obtain⟨K88,S89,m90⟩:=Ji e87 8 R
 refine⟨(S89.cl R),Jt1<|Jd<|Ob h λq8 h hK92=>Jo3 [0,1,2,7,8,9,10] (λE L w'=>∃κ' ao al,L=E/\Stp [3,5] K88 w85 κ' w'/\Oc E6 2 κ' w' 5 ao al q8/\Bc κ' w' 3 b9 127 [.slice ae q7.length ac,.slice ao q8.length al]) ?_ ?_⟩
 revert h
 cases ht98:x56
 refine JF λh=>Jy R<|Js ?_
 cases h
 exact Jw1 _ ⟨K88,aa,ab,R,Jj3,(f37.stp<|T5 S40 S51 S57 S78 S89),(f59.stp<|S78.tr S89)⟩<|KM R
 refine JT λh=>Jx R<|Ja [2,1,2,1,1,2,1] R<|Jd3 R U127 R Z37 ?_
 have f99:=f59.stp (S78.tr S89)
 refine Jb3 R I37 (f99.ld 1 R R)<|Jn 1 R<|Jw3 (κ:=K88) (E:=E6) 10 [] (parts:=[(0,.tmp 59)]) (cells:=[vi v10]) (xs:=([v10]:List Int)) R Y37 bG R ⟨[vi v10],[],Zl K88 w85 [],Zl K88 w85 [],R,Zl.sp (l1:=[]) (l2:=[]) R,Zl.sr (l1:=[]) (l2:=[]),R,R⟩ λaD aG w100 K101 S102 f103=>Tv<|Ob h λx61 hx61 h=>Jy3 (κ:=K101) (E:=E6) 5 [] R Y37 bG R (f37.stp<|T6 S40 S51 S57 S78 S89 S102) (Sl.srcP (bP _) f103.rdc) bI hx61 R λaw ar w105 K106 S107 f108=>Tv<|Jd3 R U127 R Z37<|Ju3 (κ:=K106) 3 (off:=1) (vc:=[.slice aw x61.length ar]) (cs':=[.slice ae q7.length ac,.slice aw x61.length ar]) R Z37 R (f99.stp<|S102.tr S107) R λw110 S111 f112=>Tv<|Jo ?_
 cases h
 exact Jw1 _ ⟨K106,aw,ar,R,(T3 S102 S107 S111).wk R,(f108.stp S111),f112⟩<|KM R
 rintro _ w93 ⟨K94,ao,al,rfl,S95,f96,f97⟩
 have h:=hK92
 refine Jz<|Jp<|Jf3 R ?_
 have hw24:yC .i64 (v10+1)=v10+1:=wr1 hj24 (Jm2 hc24) hN24
 rw[hw24]
 have hc24:=Jm2 hc24
 cases h
 exact Jz1 λa ha=>⟨k,_,Ja3 _,⟨K94,v10+1,(q7,q8),ae,ac,ao,al,R,(T7 S35 S40 S51 S57 S78 S89 S95).wk R,(f58.stp<|T3 S78 S89 S95),f96,f97,by omega,by omega,hk39⟩,(ha.mm R)⟩
 rintro _ w27 ⟨K28,s6,ai,ah,af,ad,rfl,S29,f30,f31,f32,rfl⟩
 have h:=yI hK25
 refine Jp<|Jh3 [2,1,1,1,2] 1 R<|Jb4 tv R (Jc4 (haE f32.cells) I127 Z127 R)<|Jw3 (κ:=K28) (E:=Pair.ep127) 6 [4,5] (parts:=[(0,.tmp 64)]) (cells:=[.slice ai s6.1.length ah,.slice af s6.2.length ad]) (xs:=([(⟨s6.1,s6.2⟩:Pair)]:List Pair)) R Y69 cw R ⟨[.slice ai s6.1.length ah,.slice af s6.2.length ad],[],Zl K28 w27 [4,5],Zl K28 w27 [],R,Zl.sp (l1:=[4,5]) (l2:=[]) R,Zl.sr (l1:=[4,5]) (l2:=[]),⟨[.slice ai s6.1.length ah],[.slice af s6.2.length ad],Zl K28 w27 [4],Zl K28 w27 [5],R,Zl.sp (l1:=[4]) (l2:=[5]) R,Zl.sr (l1:=[4]) (l2:=[5]),⟨_,_,R,f30⟩,⟨_,_,R,f31⟩⟩,R⟩ λaF aC w117 K118 S119 f120=>Tv<|Ob h λx66 hx66 h=>Jy3 (κ:=K118) (E:=Pair.ep127) 2 [6] R Y69 cw R (f15.stp<|T4 S19 S22 S29 S119) f120.src (dE R) hx66 R λax az w122 K123 S124 f125=>Tv<|Jc 1 R<|Jz<|Jp<|Jf3 R ?_
 have hw5:yC .i64 (v8+1)=v8+1:=wr1 hj5 (Jm2 hc5) hN5
 rw[hw5]
 have hc5:=Jm2 hc5
 cases h
 exact Jz1 λa ha=>⟨k,_,Ja3 _,⟨K123,v8+1,x66,ax,az,R,(T6 S14 S19 S22 S29 S119 S124).wk R,f125,by omega,by omega,hk16⟩,(ha.mm R)⟩
 rintro _ w8 ⟨K9,s3,an,ap,rfl,S10,f11,rfl⟩
 have h:=yI hK6
 refine Jp<|Je3 R<|Ju<|Ja2 (l:=[.tmp 6]) V98 (Jp2 R R) R ?_
 cases h
 exact⟨K9,an,ap,R,(hE.stp<|S3.tr S10),f11⟩
theorem rU {a0 u0}{p0:(List Place)}{p1:Int}{a2 u2}{p2:(List Int)}(g0:Rd Place.rp κ w 0 a0 u0 p0) (g2:Rd (Rp.int .i64) κ w 0 a2 u2 p2){r:Int}(h:kU p0 p1 p2=some r):Ret Tryz.prog 135 [.slice a0 p0.length u0,vi p1,.slice a2 p2.length u2] w (Pvi κ w r):=by
 unfold kU at h
 refine Jk3 κ F135 R N135 R λhE=>Je3 R<|Jq<|Je3 R ?_
 have hN1:(p0.length:Int)<=9223372036854775807:=g0.len_le
 refine Ob h λq2 hq3 hK2=>?_
 clear h
 refine Jx1 (λL w'=>∃κ',L=[]/\Stp [] κ w κ' w'/\q2=yD ()) ?_ ?_
 refine Jv<|Jp3 [0,1,2] (λk E L w'=>∃κ' v7,L=(7,vi v7)::E/\Stp [] κ w κ' w'/\0<=v7/\yG ((p0.length:Int)-v7)=k/\cntM (ij p0 p1 p2) k v7 ()=some q2) ⟨_,_,⟨κ,0,R,Jj3,(by decide),(by simp),hq3⟩,(KM R)⟩ ?_
 rintro k _ w7 ⟨K8,v7,rfl,S9,hj1,hJ1,h⟩
 rcases k with _ | k
 have hk10:=h;obtain⟨o1,h⟩:=bT (yD (yE ()):Int⊕((Unit)⊕(Unit)))
 have hc1:decide (v7<(p0.length:Int))=false:=Jo2 (by omega)
 refine Jq<|Jg3 [2,2,2,2] 2 R<|Jn3 R U80 R R<|Jb 1 R<|Jw2 R hc1<|Jc1<|Jt<|Jt ?_
 cases h
 have h:=hk10
 refine Jb1 ?_
 cases h
 exact Jw1 _ ⟨K8,R,S9.wk R,R⟩ KN
 obtain⟨o1,h,hk10⟩:=BI h;unfold ij at h
 have hc1:decide (v7<(p0.length:Int))=true:=Jn2 (by omega)
 refine Jq<|Jg3 [2,2,2,2] 2 R<|Jn3 R U80 R R<|Jb 1 R<|Jv2 R hc1<|Js<|Jp<|Jq<|Jv<|Jg3 [2,2,2,2,1,2,2,2,2,2,2,2,1,2,1,2] 2 R<|Ob h λx16 hx16 h=>Jc3 R g0 hx16 U80 Z88<|Jd3 R U88 R Z2 ?_
 have f11:=g0.stp S9
 obtain⟨cse12,hre12,hle12⟩:=(f11).gSt hx16
 obtain⟨ae12_0,ue12_0,rfl,fe12_0⟩:=Place.un hre12
 refine Jb3 R I2 (λw' hw'=>hle12 w' hw' 0 _ R)<|Jn 3 R<|Ob h λp29 h hK13=>Jq3 [0,1,2,7] (λE L w'=>L=(29,.bool p29)::E/\∃κ',Stp [] K8 w7 κ' w') [(8,2),(9,2),(10,2),(11,2),(12,1),(13,2),(14,1),(15,2)] [] tv ?_ ?_
 revert h
 cases ht14:(x16.At==p1)
 refine JF λh=>Jn 4 R<|Jz3 R<|Jn 1 R<|Jz3 R<|Jn 1 R ?_
 cases h
 exact Jv1 _ tv ⟨R,_,Jj3⟩<|KM R
 refine JT λh=>Jn 2 R<|Ob h λx24 hx24 h=>Jc3 R f11 hx24 U80 Z88<|Jd3 R U88 R Z37 ?_
 obtain⟨cse15,hre15,hle15⟩:=(f11).gSt hx24
 obtain⟨ae15_0,ue15_0,rfl,fe15_0⟩:=Place.un hre15
 refine Jb3 R I37 (λw' hw'=>hle15 w' hw' 1 _ R)<|Jn 1 R<|Ob h λx28 hx28 h=>Jr3 R C198 (og (κ:=Mk K8) (Ji3 fe15_0) (Ji3<|g2.stp S9) hx28) ?_
 rintro _ w17 ⟨k18,rfl,e19⟩
 obtain⟨K20,S21,m22⟩:=Ji e19 2 R
 refine Tv<|Jn 1 R ?_
 cases h
 exact Jv1 _ tv ⟨R,_,S21.wk R⟩<|KM R
 rintro _ w24 _ ⟨rfl,K25,S26⟩
 have h:=hK13
 refine Jd ?_
 revert h
 cases ht27:p29
 refine JF λh=>Jy R<|Js<|Jz<|Jp<|Jf3 R ?_
 have hw1:yC .i64 (v7+1)=v7+1:=wr1 hj1 (Jm2 hc1) hN1
 rw[hw1]
 have hc1:=Jm2 hc1
 cases h
 exact Jz1 λa ha=>⟨k,_,Ja3 _,⟨K25,v7+1,R,(S9.tr S26).wk R,by omega,by omega,hk10⟩,(ha.mm R)⟩
 refine JT λh=>Jx R<|Je3 R<|Ju<|Ja1<|Jw<|Jw ?_
 cases h
 obtain rfl:=Option.some.inj hk10
 have h:=yL hK2
 refine Ja1<|Jq2<|Jw<|Ja2 (l:=[.tmp 6]) V135 (Jp2 R R) R ?_
 cases h
 exact⟨K25,R,(hE.stp<|S9.tr S26)⟩
 rintro _ w4 ⟨K5,rfl,S6,rfl⟩
 have h:=yI hK2
 refine Jp<|Je3 R<|Ju<|Ja2 (l:=[.tmp 6]) V135 (Jp2 R R) R ?_
 cases h
 exact⟨K5,R,(hE.stp S6)⟩
theorem rD {a0 u0}{p0:(List Pair)}{a1 u1}{p1:(List Int)}{p2:Int}(g0:Rd Pair.rp κ w 0 a0 u0 p0) (g1:Rd (Rp.int .i64) κ w 0 a1 u1 p1){r:Int}(h:iB p0 p1 p2=some r):Ret Tryz.prog 137 [.slice a0 p0.length u0,.slice a1 p1.length u1,vi p2] w (Pvi κ w r):=by
 unfold iB at h
 refine Jk3 κ F137 R N137 R λhE=>Je3 R<|Je3 R<|Je3 R<|Jq<|Je3 R ?_
 have hN1:(p1.length:Int)<=9223372036854775807:=g1.len_le
 refine Ob h λq2 hq3 hK2=>?_
 clear h
 refine Jx1 (λL w'=>∃κ',∃s3:Int×Int,L=[(7,vi s3.1),(8,vi s3.2)]/\Stp [] κ w κ' w'/\q2=yD s3) ?_ ?_
 refine Jv<|Jp3 [0,1,2] (λk E L w'=>∃κ' v9,∃s1:Int×Int,L=(7,vi s1.1)::(8,vi s1.2)::(9,vi v9)::E/\Stp [] κ w κ' w'/\0<=v9/\yG ((p1.length:Int)-v9)=k/\cntM (eH p0 p1 p2) k v9 s1=some q2) ⟨_,_,⟨κ,0,(((-1):Int),((-1):Int)),R,Jj3,(by decide),(by simp),hq3⟩,(KM R)⟩ ?_
 rintro k _ w7 ⟨K8,v9,s1,rfl,S9,hj1,hJ1,h⟩
 rcases k with _ | k
 have hk10:=h;obtain⟨o1,h⟩:=bT (yD (yE s1):Int⊕((Int×Int)⊕(Int×Int)))
 have hc1:decide (v9<(p1.length:Int))=false:=Jo2 (by omega)
 refine Jq<|Jg3 [2,2,2,2] 2 R<|Jn3 R U37 R R<|Jb 1 R<|Jw2 R hc1<|Jc1<|Jt<|Jt ?_
 cases h
 have h:=hk10
 refine Jb1 ?_
 cases h
 exact Jw1 _ ⟨K8,(s1.1,s1.2),R,S9.wk R,R⟩<|KM R
 obtain⟨o1,h,hk10⟩:=BI h;unfold eH at h
 have hc1:decide (v9<(p1.length:Int))=true:=Jn2 (by omega)
 refine Jq<|Jg3 [2,2,2,2] 2 R<|Jn3 R U37 R R<|Jb 1 R<|Jv2 R hc1<|Js<|Jp<|Jq<|Jv<|Jq<|Jg3 [2,2,2,2,1,2,2,1,2,1] 3 R<|Ob h λx19 hx19 h=>Jc3 R g1 hx19 U37 Z2 ?_
 have f11:=g1.stp S9
 refine Jb3 R I2 (f11.gInt hx19)<|Ob h λx21 hx21 h=>Jc3 R g0 hx21 U69 Z127<|Jd3 R U127 R Z37 ?_
 have f12:=g0.stp S9
 obtain⟨cse13,hre13,hle13⟩:=(f12).gSt hx21
 obtain⟨ae13_0,ue13_0,ae13_1,ue13_1,rfl,fe13_0,fe13_1⟩:=Pair.un hre13
 refine Jb3 R I37 (λw' hw'=>hle13 w' hw' 0 _ R)<|Jn 1 R<|Ob h λx25 hx25 h=>Jr3 R C197 (mA (κ:=Mk K8) (Ji3 fe13_0) hx25) ?_
 rintro _ w14 ⟨k15,rfl,e16⟩
 obtain⟨K17,S18,m19⟩:=Ji e16 2 R
 refine Tv<|Jd<|Ob h λq4 h hK21=>Jo3 [0,1,2,8,9] (λE L w'=>∃κ',L=(7,vi q4)::E/\Stp [] K17 w14 κ' w') ?_ ?_
 revert h
 cases ht25:x25
 refine JF λh=>Jy R<|Js ?_
 cases h
 exact Jw1 _ ⟨K17,R,Jj3⟩<|KM R
 refine JT λh=>Jx R<|Jf3 R ?_
 cases h
 exact Jw1 _ ⟨K17,R,Jj3⟩<|KM R
 rintro _ w22 ⟨K23,rfl,S24⟩
 have h:=hK21
 refine Jp<|Jg3 [2,2,2,2,1,2,2,1,2,1] 3 R<|Ob h λx30 hx30 h=>Jc3 R f11 hx30 U37 Z2<|Jb3 R I2 ((f11.stp<|S18.tr S24).gInt hx30)<|Ob h λx32 hx32 h=>Jc3 R f12 hx32 U69 Z127<|Jd3 R U127 R Z37 ?_
 obtain⟨cse28,hre28,hle28⟩:=((f12.stp (S18.tr S24))).gSt hx32
 obtain⟨ae28_0,ue28_0,ae28_1,ue28_1,rfl,fe28_0,fe28_1⟩:=Pair.un hre28
 refine Jb3 R I37 (λw' hw'=>hle28 w' hw' 1 _ R)<|Jn 1 R<|Ob h λx36 hx36 h=>Jr3 R C197 (mA (κ:=Mk K23) (Ji3 fe28_1) hx36) ?_
 rintro _ w29 ⟨k30,rfl,e31⟩
 obtain⟨K32,S33,m34⟩:=Ji e31 4 R
 refine Tv<|Jd<|Ob h λq5 h hK36=>Jo3 [0,1,2,7,9] (λE L w'=>∃κ',L=(8,vi q5)::E/\Stp [] K32 w29 κ' w') ?_ ?_
 revert h
 cases ht40:x36
 refine JF λh=>Jy R<|Js ?_
 cases h
 exact Jw1 _ ⟨K32,R,Jj3⟩<|KM R
 refine JT λh=>Jx R<|Jf3 R ?_
 cases h
 exact Jw1 _ ⟨K32,R,Jj3⟩<|KM R
 rintro _ w37 ⟨K38,rfl,S39⟩
 have h:=hK36
 refine Jz<|Jp<|Jf3 R ?_
 have hw1:yC .i64 (v9+1)=v9+1:=wr1 hj1 (Jm2 hc1) hN1
 rw[hw1]
 have hc1:=Jm2 hc1
 cases h
 exact Jz1 λa ha=>⟨k,_,Ja3 _,⟨K38,v9+1,(q4,q5),R,(T5 S9 S18 S24 S33 S39).wk R,by omega,by omega,hk10⟩,(ha.mm R)⟩
 rintro _ w4 ⟨K5,s3,rfl,S6,rfl⟩
 have h:=yI hK2
 refine Jp<|Jq<|Jv<|Jg3 [2,2,2,2,2,2,2] 3 R<|Ob h λp44 h hK41=>Jq3 [7,8] (λE L w'=>L=(44,.bool p44)::E/\∃κ',Stp [] K5 w4 κ' w') [(3,2),(4,2),(5,2)] [(6,2)] tv ?_ ?_
 revert h
 cases ht42:decide (s3.1<0)
 refine JF λh=>Jn 3 R ?_
 cases h
 exact Jv1 _ tv ⟨R,_,Jj3⟩<|KM R
 refine JT λh=>Jn 3 R ?_
 cases h
 exact Jv1 _ tv ⟨R,_,Jj3⟩<|KM R
 rintro _ w43 _ ⟨rfl,K44,S45⟩
 have h:=hK41
 refine Jb 1 R ?_
 revert h
 cases ht46:p44
 refine JF λh=>Jy R<|Je3 R ?_
 revert h
 cases ht48:decide (s3.2<s3.1)
 refine JF λh=>Jy R<|Js<|Jz<|Jp<|Je3 R<|Ju<|Ja2 (l:=[.tmp 6]) V137 (Jp2 R R) R ?_
 cases h
 exact⟨K44,R,(hE.stp<|S6.tr S45)⟩
 refine JT λh=>Jx R<|Je3 R<|Ju<|Ja1<|Jw<|Ja2 (l:=[.tmp 6]) V137 (Jp2 R R) R ?_
 cases h
 exact⟨K44,R,(hE.stp<|S6.tr S45)⟩
 refine JT λh=>Jx R<|Je3 R<|Ju<|Ja1<|Jw<|Ja2 (l:=[.tmp 6]) V137 (Jp2 R R) R ?_
 cases h
 exact⟨K44,R,(hE.stp<|S6.tr S45)⟩
theorem p9 {ac ab ad aa}{p0:Arena}{p1:Int}(g0_0:Rd (Rp.int .i64) κ w 0 ac ab p0.Owner) (g0_1:Rd (Rp.sl (Rp.int .i64)) κ w 0 ad aa p0.Next){r:Bool}(h:jl p0 p1=some r):Ret Tryz.prog 193 [.agg #[.slice ac p0.Owner.length ab,.slice ad p0.Next.length aa],vi p1] w (Pvb κ w r):=by
 unfold jl at h
 refine Jk3 κ F193 R N193 R λhE=>Je [1,2] R<|Js3 (κ:=κ) 2 R λb2 w1 K2 S3 f4=>Tv<|Jb 1 R<|Jg3 [2,2,2,2,1,1,2,2,2] 3 R<|Ob h λp12 h hK5=>Jq3 [4] (λE L w'=>L=(12,.bool p12)::E/\∃κ',Stp [] K2 w1 κ' w') [(3,2),(4,1),(5,1),(6,2),(7,2)] [(8,2)] tv ?_ ?_
 revert h
 cases ht6:decide (0<=p1)
 refine JF λh=>Jn 1 R<|Jz3 R<|Jz3 R<|Jn 2 R ?_
 cases h
 exact Jv1 _ tv ⟨R,_,Jj3⟩<|KM R
 refine JT λh=>Jn 1 R<|Jb4 tv R (Jc4 (haE f4.cells) I75 Z75 R)<|Ob h λx10 hx10 h=>Jr3 R C181 (oh (κ:=Mk K2) (p0:=p0) (Ji3<|g0_0.stp S3) (Ji3<|g0_1.stp S3) hx10) ?_
 rintro _ w9 ⟨k10,rfl,e11⟩
 obtain⟨K12,S13,m14⟩:=Ji e11 3 R
 refine Tv<|Jn 2 R ?_
 cases h
 exact Jv1 _ tv ⟨R,_,S13.wk R⟩<|KM R
 rintro _ w16 _ ⟨rfl,K17,S18⟩
 have h:=hK5
 refine Jb 1 R<|Ju<|Ja2 (l:=[.tmp 4]) V193 (Jp2 R R) R ?_
 cases h
 exact⟨K17,R,(hE.stp<|S3.tr S18)⟩
theorem my {p0:Sig}  {r:Int}(h:jd p0=some r):Ret Tryz.prog 60 [.agg #[vi p0.In,vi p0.Out]] w (Pvi κ w r):=by
 unfold jd at h
 refine Jk3 κ F60 R N60 R λhE=>Je [1,2] R<|Js3 (κ:=κ) 2 R λb1 w1 K2 S3 f4=>Tv<|Jb 1 R<|Je [2,1,1,2] R<|Jd3 R U28 R Z2<|Jb3 R I2 (f4.ld 0 R R)<|Ob h λx5 hx5 h=>Jr3 R C62 (dq (κ:=Mk K2) hx5) ?_
 rintro _ w5 ⟨k6,rfl,e7⟩
 obtain⟨K8,S9,m10⟩:=Ji e7 3 R
 refine Tv<|Jb 1 R<|Ju<|Ja2 (l:=[.tmp 2]) V60 (Jp2 R R) R ?_
 cases h
 exact⟨K8,R,(hE.stp<|S3.tr S9)⟩
theorem oc {a0 u0}{p0:(List Int)}{a1 u1}{p1:(List Int)}(g0:Rd (Rp.int .i64) κ w 0 a0 u0 p0) (g1:Rd (Rp.int .i64) κ w 0 a1 u1 p1){r:Bool}(h:jy p0 p1=some r):Ret Tryz.prog 152 [.slice a0 p0.length u0,.slice a1 p1.length u1] w (Pvb κ w r):=by
 unfold jy at h
 refine Jk3 κ F152 R N152 R λhE=>Je3 R<|Jq<|Je3 R ?_
 have hN1:(p0.length:Int)<=9223372036854775807:=g0.len_le
 refine Ob h λq2 hq3 hK2=>?_
 clear h
 refine Jx1 (λL w'=>∃κ',L=[]/\Stp [] κ w κ' w'/\q2=yD ()) ?_ ?_
 refine Jv<|Jp3 [0,1] (λk E L w'=>∃κ' v5,L=(5,vi v5)::E/\Stp [] κ w κ' w'/\0<=v5/\yG ((p0.length:Int)-v5)=k/\cntM (io p0 p1) k v5 ()=some q2) ⟨_,_,⟨κ,0,R,Jj3,(by decide),(by simp),hq3⟩,(KM R)⟩ ?_
 rintro k _ w7 ⟨K8,v5,rfl,S9,hj1,hJ1,h⟩
 rcases k with _ | k
 have hk10:=h;obtain⟨o1,h⟩:=bT (yD (yE ()):Bool⊕((Unit)⊕(Unit)))
 have hc1:decide (v5<(p0.length:Int))=false:=Jo2 (by omega)
 refine Jq<|Jg3 [2,2,2,2] 2 R<|Jn3 R U37 R R<|Jb 1 R<|Jw2 R hc1<|Jc1<|Jt<|Jt ?_
 cases h
 have h:=hk10
 refine Jb1 ?_
 cases h
 exact Jw1 _ ⟨K8,R,S9.wk R,R⟩ KN
 obtain⟨o1,h,hk10⟩:=BI h;unfold io at h
 have hc1:decide (v5<(p0.length:Int))=true:=Jn2 (by omega)
 refine Jq<|Jg3 [2,2,2,2] 2 R<|Jn3 R U37 R R<|Jb 1 R<|Jv2 R hc1<|Js<|Jp<|Jq<|Jv<|Jg3 [2,2,2,2,1,1,2] 3 R<|Ob h λx15 hx15 h=>Jc3 R g0 hx15 U37 Z2<|Jb3 R I2 ((g0.stp S9).gInt hx15)<|Ob h λx17 hx17 h=>Jr3 R C81 (dK (κ:=Mk K8) (Ji3<|g1.stp S9) hx17) ?_
 rintro _ w13 ⟨k14,rfl,e15⟩
 obtain⟨K16,S17,m18⟩:=Ji e15 2 R
 refine Tv<|Jb 1 R ?_
 revert h
 cases ht20:(!x17)
 refine JF λh=>Jy R<|Js<|Jz<|Jp<|Jf3 R ?_
 have hw1:yC .i64 (v5+1)=v5+1:=wr1 hj1 (Jm2 hc1) hN1
 rw[hw1]
 have hc1:=Jm2 hc1
 cases h
 exact Jz1 λa ha=>⟨k,_,Ja3 _,⟨K16,v5+1,R,(S9.tr S17).wk R,by omega,by omega,hk10⟩,(ha.mm R)⟩
 refine JT λh=>Jx R<|Je3 R<|Ju<|Ja1<|Jw<|Jw ?_
 cases h
 obtain rfl:=Option.some.inj hk10
 have h:=yL hK2
 refine Ja1<|Jq2<|Jw<|Ja2 (l:=[.tmp 4]) V152 (Jp2 R R) R ?_
 cases h
 exact⟨K16,R,(hE.stp<|S9.tr S17)⟩
 rintro _ w4 ⟨K5,rfl,S6,rfl⟩
 have h:=yI hK2
 refine Jp<|Je3 R<|Ju<|Ja2 (l:=[.tmp 4]) V152 (Jp2 R R) R ?_
 cases h
 exact⟨K5,R,(hE.stp S6)⟩
theorem rb {ac ad aa ab}{p0:Clause}{a1 u1}{p1:(List Int)}{p2:Int}(g0_1:Rd (Rp.int .i64) κ w 0 ac ad p0.A) (g0_2:Rd (Rp.int .i64) κ w 0 aa ab p0.B) (g1:Rd (Rp.int .i64) κ w 0 a1 u1 p1){r:Bool}(h:kX p0 p1 p2=some r):Ret Tryz.prog 153 [.agg #[vi p0.Kind,.slice ac p0.A.length ad,.slice aa p0.B.length ab],.slice a1 p1.length u1,vi p2] w (Pvb κ w r):=by
 unfold kX at h
 refine Jk3 κ F153 R N153 R λhE=>Je [1,2] R<|Js3 (κ:=κ) 2 R λb3 w1 K2 S3 f4=>Tv<|Jb 1 R<|Jq<|Je3 R ?_
 have hN5:(p1.length:Int)<=9223372036854775807:=g1.len_le
 refine Ob h λq2 hq7 hK6=>?_
 clear h
 refine Jx1 (λL w'=>∃κ',L=[]/\Stp [] K2 w1 κ' w'/\q2=yD ()) ?_ ?_
 refine Jv<|Jp3 [1,2,3] (λk E L w'=>∃κ' v7,L=(7,vi v7)::E/\Stp [] K2 w1 κ' w'/\0<=v7/\yG ((p1.length:Int)-v7)=k/\cntM (g8 p0 p1 p2) k v7 ()=some q2) ⟨_,_,⟨K2,0,R,Jj3,(by decide),(by simp),hq7⟩,(KM R)⟩ ?_
 rintro k _ w11 ⟨K12,v7,rfl,S13,hj5,hJ5,h⟩
 rcases k with _ | k
 have hk14:=h;obtain⟨o5,h⟩:=bT (yD (yE ()):Bool⊕((Unit)⊕(Unit)))
 have hc5:decide (v7<(p1.length:Int))=false:=Jo2 (by omega)
 refine Jq<|Jg3 [2,2,2,2] 2 R<|Jn3 R U37 R R<|Jb 1 R<|Jw2 R hc5<|Jc1<|Jt<|Jt ?_
 cases h
 have h:=hk14
 refine Jb1 ?_
 cases h
 exact Jw1 _ ⟨K12,R,S13.wk R,R⟩ KN
 obtain⟨o5,h,hk14⟩:=BI h;unfold g8 at h
 have hc5:decide (v7<(p1.length:Int))=true:=Jn2 (by omega)
 refine Jq<|Jg3 [2,2,2,2] 2 R<|Jn3 R U37 R R<|Jb 1 R<|Jv2 R hc5<|Js<|Jp<|Jq<|Jv<|Je3 R<|Jq<|Jg3 [2,2,2,2,2] 3 R<|Jn3 R U37 R R<|Jb 1 R<|Ob h λq4 h hK15=>Jo3 [1,2,3,7] (λE L w'=>∃κ',L=(8,vi q4)::E/\Stp [] K12 w11 κ' w') ?_ ?_
 revert h
 cases ht19:decide ((IntKind.i64.wrap (v7+1))<(p1.length:Int))
 refine JF λh=>Jy R<|Js ?_
 cases h
 exact Jw1 _ ⟨K12,R,Jj3⟩<|KM R
 refine JT λh=>Jx R<|Jf3 R ?_
 cases h
 exact Jw1 _ ⟨K12,R,Jj3⟩<|KM R
 rintro _ w16 ⟨K17,rfl,S18⟩
 have h:=hK15
 refine Jp<|Jq<|Js1 (κ:=K17) [0,2] none [(0,2),(2,2),(3,2),(4,2),(1,0),(5,0),(6,1),(7,2),(8,2),(10,2),(11,2),(12,2),(9,0),(13,0),(14,1),(15,2),(16,2)] [] (by kernel_rfl) (by kernel_rfl) λw21 S20=>Jd3 R U67 R Z37<|Jn 2 R<|Ob h λx27 hx27 h=>Jc3 R g1 hx27 U37 Z2 ?_
 have f22:=f4.stp (T3 S13 S18 S20)
 refine Jg R (Jc2 I37 R R<|hvC (f22.ld 1 R R) R) ?_
 have f23:=g1.stp (T4 S3 S13 S18 S20)
 refine Jg R (Jc2 I2 R R<|hvC (f23.gInt hx27) R)<|Ob h λx29 hx29 h=>Jr3 R C81 (dK (κ:=Mk K17) (Ji3<|g0_1.stp<|T4 S3 S13 S18 S20) hx29) ?_
 rintro _ w25 ⟨k26,rfl,e27⟩
 obtain⟨K28,S29,m30⟩:=Ji e27 3 R
 refine⟨(S29.cl R),Jn 1 R<|Ob h λp39 h hK32=>Jq3 [1,2,3,7] (λE L w'=>L=(39,.bool p39)::E/\∃κ',Stp [] K28 w25 κ' w') [(8,2),(10,2),(11,2),(12,2),(9,0),(13,0),(14,1),(15,2),(16,2)] [] (S29.cl R) ?_ ?_⟩
 revert h
 cases ht33:x29
 refine JF λh=>Jn 4 R<|Ja4 R<|Ja4 R<|Jz3 R<|Jn 2 R ?_
 cases h
 exact Jv1 _ (S29.cl R) ⟨R,_,Jj3⟩<|KM R
 refine JT λh=>Jd3 R U67 R Z37<|Jn 2 R<|Ob h λx35 hx35 h=>Jc3 R f23 hx35 U37 Z2<|Jg R (Jc2 I37 R R<|hvC (f22.ld 2 R R) R)<|Jg R (Jc2 I2 R R<|hvC (f23.gInt hx35) R)<|Ob h λx37 hx37 h=>Jr3 R C81 (dK (κ:=Mk K28) (Ji3<|g0_2.stp<|T5 S3 S13 S18 S20 S29) hx37) ?_
 rintro _ w35 ⟨k36,rfl,e37⟩
 obtain⟨K38,S39,m40⟩:=Ji e37 5 R
 refine⟨((S29.tr S39).cl R),Jn 2 R ?_⟩
 cases h
 exact Jv1 _ ((S29.tr S39).cl R) ⟨R,_,S39.wk R⟩<|KM R
 rintro _ w42 _ ⟨rfl,K43,S44⟩
 have h:=hK32
 refine Jt1<|Jd ?_
 revert h
 cases ht45:p39
 refine JF λh=>Jy R<|Js<|Jz<|Jp<|Jf3 R ?_
 have hw5:yC .i64 (v7+1)=v7+1:=wr1 hj5 (Jm2 hc5) hN5
 rw[hw5]
 have hc5:=Jm2 hc5
 cases h
 exact Jz1 λa ha=>⟨k,_,Ja3 _,⟨K43,v7+1,R,(T5 S13 S18 S20 S29 S44).wk R,by omega,by omega,hk14⟩,(ha.mm R)⟩
 refine JT λh=>Jx R<|Je3 R<|Ju<|Ja1<|Jw<|Jw ?_
 cases h
 obtain rfl:=Option.some.inj hk14
 have h:=yL hK6
 refine Ja1<|Jq2<|Jw<|Ja2 (l:=[.tmp 6]) V153 (Jp2 R R) R ?_
 cases h
 exact⟨K43,R,(hE.stp<|T6 S3 S13 S18 S20 S29 S44)⟩
 rintro _ w8 ⟨K9,rfl,S10,rfl⟩
 have h:=yI hK6
 refine Jp<|Je3 R<|Ju<|Ja2 (l:=[.tmp 6]) V153 (Jp2 R R) R ?_
 cases h
 exact⟨K9,R,(hE.stp<|S3.tr S10)⟩
theorem fS {a0 u0}{p0:(List Int)}{a1 u1}{p1:(List Int)}(g0:Rd (Rp.int .i64) κ w 0 a0 u0 p0) (g1:Rd (Rp.int .i64) κ w 0 a1 u1 p1){r:Bool}(h:fc p0 p1=some r):Ret Tryz.prog 155 [.slice a0 p0.length u0,.slice a1 p1.length u1] w (Pvb κ w r):=by
 unfold fc at h
 refine Jk3 κ F155 R N155 R λhE=>Je3 R<|Jq<|Je3 R ?_
 have hN1:(p0.length:Int)<=9223372036854775807:=g0.len_le
 refine Ob h λq2 hq3 hK2=>?_
 clear h
 refine Jx1 (λL w'=>∃κ',L=[]/\Stp [] κ w κ' w'/\q2=yD ()) ?_ ?_
 refine Jv<|Jp3 [0,1] (λk E L w'=>∃κ' v5,L=(5,vi v5)::E/\Stp [] κ w κ' w'/\0<=v5/\yG ((p0.length:Int)-v5)=k/\cntM (g9 p0 p1) k v5 ()=some q2) ⟨_,_,⟨κ,0,R,Jj3,(by decide),(by simp),hq3⟩,(KM R)⟩ ?_
 rintro k _ w7 ⟨K8,v5,rfl,S9,hj1,hJ1,h⟩
 rcases k with _ | k
 have hk10:=h;obtain⟨o1,h⟩:=bT (yD (yE ()):Bool⊕((Unit)⊕(Unit)))
 have hc1:decide (v5<(p0.length:Int))=false:=Jo2 (by omega)
 refine Jq<|Jg3 [2,2,2,2] 2 R<|Jn3 R U37 R R<|Jb 1 R<|Jw2 R hc1<|Jc1<|Jt<|Jt ?_
 cases h
 have h:=hk10
 refine Jb1 ?_
 cases h
 exact Jw1 _ ⟨K8,R,S9.wk R,R⟩ KN
 obtain⟨o1,h,hk10⟩:=BI h;unfold g9 at h
 have hc1:decide (v5<(p0.length:Int))=true:=Jn2 (by omega)
 refine Jq<|Jg3 [2,2,2,2] 2 R<|Jn3 R U37 R R<|Jb 1 R<|Jv2 R hc1<|Js<|Jp<|Jq<|Jv<|Jg3 [2,2,2,2,1,1] 3 R<|Ob h λx15 hx15 h=>Jc3 R g0 hx15 U37 Z2<|Jb3 R I2 ((g0.stp S9).gInt hx15)<|Ob h λx17 hx17 h=>Jr3 R C81 (dK (κ:=Mk K8) (Ji3<|g1.stp S9) hx17) ?_
 rintro _ w13 ⟨k14,rfl,e15⟩
 obtain⟨K16,S17,m18⟩:=Ji e15 2 R
 refine Tv<|Jd ?_
 revert h
 cases ht20:x17
 refine JF λh=>Jy R<|Js<|Jz<|Jp<|Jf3 R ?_
 have hw1:yC .i64 (v5+1)=v5+1:=wr1 hj1 (Jm2 hc1) hN1
 rw[hw1]
 have hc1:=Jm2 hc1
 cases h
 exact Jz1 λa ha=>⟨k,_,Ja3 _,⟨K16,v5+1,R,(S9.tr S17).wk R,by omega,by omega,hk10⟩,(ha.mm R)⟩
 refine JT λh=>Jx R<|Je3 R<|Ju<|Ja1<|Jw<|Jw ?_
 cases h
 obtain rfl:=Option.some.inj hk10
 have h:=yL hK2
 refine Ja1<|Jq2<|Jw<|Ja2 (l:=[.tmp 4]) V155 (Jp2 R R) R ?_
 cases h
 exact⟨K16,R,(hE.stp<|S9.tr S17)⟩
 rintro _ w4 ⟨K5,rfl,S6,rfl⟩
 have h:=yI hK2
 refine Jp<|Je3 R<|Ju<|Ja2 (l:=[.tmp 4]) V155 (Jp2 R R) R ?_
 cases h
 exact⟨K5,R,(hE.stp S6)⟩
end Go.Proofs.YtleekpaohfpooaaGreat
