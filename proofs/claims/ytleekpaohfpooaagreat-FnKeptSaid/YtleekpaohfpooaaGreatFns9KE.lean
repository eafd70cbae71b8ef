/- The walks, part 9. By program. -/
import Derived.Test.YtleekpaohfpooaaGreatFns8KE
set_option linter.unusedVariables false
set_option linter.unusedSimpArgs false
open Go.IntKind renaming wrap → yC
open Sum renaming inr → yD, inl → yE
open Int renaming toNat → yG
namespace Go.Proofs.YtleekpaohfpooaaGreat
open Go Go.Wk Go.Proofs
set_option maxRecDepth 100000
set_option maxHeartbeats 1000000
variable {w:World}{κ:Col}
theorem oY {p0:Sig}{a1 u1}{p1:(List Clause)}(g1:Rd Clause.rp κ w 0 a1 u1 p1){r:Bool}(h:ic p0 p1=some r):Ret Tryz.prog 63 [.agg #[vi p0.In,vi p0.Out],.slice a1 p1.length u1] w (Pvb κ w r):=by
 unfold ic at h
 refine Jk3 κ F63 R N63 R λhE=>Je [1,2] R<|Js3 (κ:=κ) 2 R λb2 w1 K2 S3 f4=>Tv<|Jb 1 R<|Jg3 [2,2,2,2,2,2,1,2,2,2] 1 R<|Jn3 R U29 R R<|Jn 2 R<|Ob h λp13 h hK5=>Jq3 [4] (λE L w'=>L=(13,.bool p13)::E/\∃κ',Stp [] K2 w1 κ' w') [(4,2),(5,2),(6,1),(7,2),(8,2)] [(9,2)] tv ?_ ?_
 revert h
 cases ht6:decide ((p1.length:Int)<=3)
 refine JF λh=>Jn 2 R<|Jz3 R<|Jn 2 R ?_
 cases h
 exact Jv1 _ tv ⟨R,_,Jj3⟩<|KM R
 refine JT λh=>Jn 1 R<|Jf R (gM (first:=[]) (captured:=[.tmp 2]) R R R ⟨_,R⟩)<|Ob h λx11 hx11 h=>Jr3 R C126 (cY (κ:=Mk K2) (c1_0:=p0) (Ji3<|g1.stp S3) (f4.map (mp [] 0) R R) hx11) ?_
 rintro _ w8 ⟨k9,rfl,e10⟩
 obtain⟨K11,S12,m13⟩:=Ji e10 3 R
 refine Tv<|Jn 2 R ?_
 cases h
 exact Jv1 _ tv ⟨R,_,S12.wk R⟩<|KM R
 rintro _ w15 _ ⟨rfl,K16,S17⟩
 have h:=hK5
 refine Jb 1 R<|Ju<|Ja2 (l:=[.tmp 4]) V63 (Jp2 R R) R ?_
 cases h
 exact⟨K16,R,(hE.stp<|S3.tr S17)⟩
theorem na {ah an ai ap}{p0:Arena}{a1 u1}{p1:(List Pair)}{p2:Int}(g0_0:Rd (Rp.int .i64) κ w 0 ah an p0.Owner) (g0_1:Rd (Rp.sl (Rp.int .i64)) κ w 0 ai ap p0.Next) (g1:Rd Pair.rp κ w 0 a1 u1 p1){r:Parity×(List Place)×Bool}(h:dy p0 p1 p2=some r):Ret Tryz.prog 43 [.agg #[.slice ah p0.Owner.length an,.slice ai p0.Next.length ap],.slice a1 p1.length u1,vi p2] w (λv w'=>∃(κ':Col) (ra0:Option Addr) (ru0:Nat) (ra1:Option Addr) (ru1:Nat) (ra2:Option Addr) (ru2:Nat) (ra3:Option Addr) (ru3:Nat),v= .tuple #[.agg #[.slice ra0 r.1.Arena.Owner.length ru0,.slice ra1 r.1.Arena.Next.length ru1,.slice ra2 r.1.Prio.length ru2],.slice ra3 r.2.1.length ru3,.bool r.2.2]/\Ent κ w κ' w'/\Oc E6 2 κ' w' 2 ra0 ru0 r.1.Arena.Owner/\Oc (Ep.fz (Rp.sl (Rp.int .i64))) 37 κ' w' 3 ra1 ru1 r.1.Arena.Next/\Oc E6 2 κ' w' 4 ra2 ru2 r.1.Prio/\Oc (Ep.fz Place.rp) 88 κ' w' 5 ra3 ru3 r.2.1):=by
 unfold dy at h
 refine Jk3 κ F43 R N43 R λhE=>Je [1,1,1,2,2] R<|Js3 (κ:=κ) 2 R λb3 w1 K2 S3 f4=>Tv<|Js3 (κ:=K2) 3 R λb4 w5 K6 S7 f8=>Tv<|Jt3 (κ:=K6) 4 R X79 R λb6 w9 K10 S11 f12=>Tv<|Jb 2 R<|Jg3 [2,2,1,1] 1 R<|Jf R (bK (parts:=[(0,.tmp 11)]) (cells:=[vi p2,.slice none 0 0]) R R (by kernel_rfl))<|Jt3 (κ:=K10) 5 R X88 R λb9 w13 K14 S15 f16=>Tv<|Jv3 (κ:=K14) 5 (vc:=[vi p2,.slice none 0 0]) R Z88 R f16 R λw17 S18 f19=>Tv<|Jd<|Jq<|Je [1,2,2] R ?_
 have f20:=f8.stp (T3 S11 S15 S18)
 refine Jb3 R I69 (f20.ld 0 R R)<|Jn3 R U69 R R<|Jb 1 R ?_
 have hN21:(p1.length:Int)<=9223372036854775807:=g1.len_le
 refine Ob h λq2 hq23 hK22=>?_
 clear h
 refine Jo3 [3,4,6,9] (λE L w'=>∃κ',∃s3:(List Int),∃ad ae,L=E/\Stp [5,6] K14 w17 κ' w'/\Oc E6 2 κ' w' 6 ad ae s3/\Bc κ' w' 5 b9 88 [vi p2,.slice ad s3.length ae]/\q2=yD s3) ?_ ?_
 refine Jv<|Jp3 [3,4,6,9,14] (λk E L w'=>∃κ' v15,∃s1:(List Int),∃ab aa,L=(15,vi v15)::E/\Stp [5,6] K14 w17 κ' w'/\Oc E6 2 κ' w' 6 ab aa s1/\Bc κ' w' 5 b9 88 [vi p2,.slice ab s1.length aa]/\0<=v15/\yG ((p1.length:Int)-v15)=k/\cntM iN k v15 s1=some q2) ⟨_,_,⟨K14,0,(([]:List Int):(List Int)),none,0,R,Jj3,Ow.nil,f19,(by decide),(by simp),hq23⟩,(KM R)⟩ ?_
 rintro k _ w29 ⟨K30,v15,s1,ab,aa,rfl,S31,f32,f33,hj21,hJ21,h⟩
 rcases k with _ | k
 have hk34:=h;obtain⟨o21,h⟩:=bT (yD (yE s1):(Parity×(List Place)×Bool)⊕(((List Int))⊕((List Int))))
 have hc21:decide (v15<(p1.length:Int))=false:=Jo2 (by omega)
 refine Je3 R<|Jq<|Jw2 R hc21<|Jc1<|Jt<|Jt ?_
 cases h
 have h:=hk34
 refine Jb1 ?_
 cases h
 exact Jw1 _ ⟨K30,s1,ab,aa,R,S31.wk R,f32,f33,R⟩<|KM R
 obtain⟨o21,h,hk34⟩:=BI h;unfold iN at h
 have hc21:decide (v15<(p1.length:Int))=true:=Jn2 (by omega)
 refine Je3 R<|Jq<|Jv2 R hc21<|Js<|Jp<|Jq<|Jv<|Je3 R<|Ja [2,1,2,1,1,2,1] R<|Jd3 R U88 R Z37<|Jb3 R I37 (f33.ld 1 R R)<|Jn 1 R<|Jw3 (κ:=K30) (E:=E6) 7 [] (parts:=[(0,.tmp 20)]) (cells:=[vi v15]) (xs:=([v15]:List Int)) R Y37 bG R ⟨[vi v15],[],Zl K30 w29 [],Zl K30 w29 [],R,Zl.sp (l1:=[]) (l2:=[]) R,Zl.sr (l1:=[]) (l2:=[]),R,R⟩ λaw av w35 K36 S37 f38=>Tv<|Ob h λx22 hx22 h=>Jy3 (κ:=K36) (E:=E6) 6 [] R Y37 bG R (f32.stp S37) (Sl.srcP (bP _) f38.rdc) bI hx22 R λac af w40 K41 S42 f43=>Tv<|Jd3 R U88 R Z37<|Ju3 (κ:=K41) 5 (off:=1) (vc:=[.slice ac x22.length af]) (cs':=[vi p2,.slice ac x22.length af]) R Z37 R (f33.stp<|S37.tr S42) R λw45 S46 f47=>Tv<|Jo<|Jz<|Jp<|Jf3 R ?_
 have hw21:yC .i64 (v15+1)=v15+1:=wr1 hj21 (Jm2 hc21) hN21
 rw[hw21]
 have hc21:=Jm2 hc21
 cases h
 exact Jz1 λa ha=>⟨k,_,Ja3 _,⟨K41,v15+1,x22,ac,af,R,(T4 S31 S37 S42 S46).wk R,(f43.stp S46),f47,by omega,by omega,hk34⟩,(ha.mm R)⟩
 rintro _ w24 ⟨K25,s3,ad,ae,rfl,S26,f27,f28,rfl⟩
 have h:=yI hK22
 refine Jp<|Je [1,1,2,2,1,2,2,2,1,2,2] R<|Jb4 tv R (Jc4 (haE (f4.stp<|T5 S7 S11 S15 S18 S26).cells) I75 Z75 R)<|Jb4 tv R (Jc4 (haE f28.cells) I88 Z88 R)<|Jf R (gM (first:=[]) (captured:=[.tmp 4]) R R R ⟨_,R⟩)<|Jf R (gM (first:=[]) (captured:=[.tmp 4]) R R R ⟨_,R⟩) ?_
 obtain⟨K50,S51,z52⟩:=fV K25 w24 6
 obtain⟨K55,S56,z57⟩:=fV K50 w24 3
 have S001:=(T8 S3 S7 S11 S15 S18 S26 S51 S56)
 refine Ob h λx29 hx29 h=>Jr3 R C109 (eB (κ:=λb=>mp [] 1<|K55 b) (p0:=p0) (p1:=(⟨p2,s3⟩:Place)) (Jl2 (g0_0.stp S001) (mp [] 1) R R) (Jl2 (g0_1.stp S001) (mp [] 1) R R) (Jl2 ((Sl.st z52 f27.rdc).stp S56) (mp [] 1) R R) (Jl2 (g1.stp S001) (mp [] 1) R R) ((Bc.fzz z57<|f20.stp<|S26.tr S51).map (mp [] 1) R R) hx29) ?_
 rintro _ w63 ⟨k64,al,ak,ao,aj,am,aq,au,ar,rfl,e65,f66,f67,f68,f69⟩
 obtain⟨K70,S71,m72,z73⟩:=Jj e65 7 R
 refine Tv<|Jn 3 R<|Jv3 (κ:=K70) 4 (vc:=[.slice al x29.1.Arena.Owner.length ak,.slice ao x29.1.Arena.Next.length aj,.slice am x29.1.Prio.length aq]) R Z79 R (f12.stp<|T6 S15 S18 S26 S51 S56 S71) R λw79 S80 f81=>Tv<|Jb 2 R<|Ju<|Ja2 (l:=[.cell 6 79,.tmp 7,.tmp 8]) V43 (bM R f81 I79 Z79 R<|Jp2 R<|Jp2 R R) R ?_
 cases h
 exact⟨(λb=>ren [(9,2),(10,3),(11,4),(12,5)]<|K70 b),al,ak,ao,aj,am,aq,au,ar,R,((hE.stp<|T10 S3 S7 S11 S15 S18 S26 S51 S56 S71 S80).map (ren [(9,2),(10,3),(11,4),(12,5)]) R R),(((f66.mx (bL _) m72 R (R:7+2=9)).stp S80).map (ren [(9,2),(10,3),(11,4),(12,5)]) R R),(((f67.mxz z73 m72 R (R:7+3=10)).stp S80).map (ren [(9,2),(10,3),(11,4),(12,5)]) R R),(((f68.mx (bL _) m72 R (R:7+4=11)).stp S80).map (ren [(9,2),(10,3),(11,4),(12,5)]) R R),(((f69.mxz z73 m72 R (R:7+5=12)).stp S80).map (ren [(9,2),(10,3),(11,4),(12,5)]) R R)⟩
theorem sU {af ac aa aj ah ai}{p0:Parity}(g0_0_0:Rd (Rp.int .i64) κ w 0 af ac p0.Arena.Owner) (g0_0_1:Rd (Rp.sl (Rp.int .i64)) κ w 0 aa aj p0.Arena.Next) (g0_1:Rd (Rp.int .i64) κ w 0 ah ai p0.Prio){r:Answer}(h:kE p0=some r):Ret Tryz.prog 45 [.agg #[.slice af p0.Arena.Owner.length ac,.slice aa p0.Arena.Next.length aj,.slice ah p0.Prio.length ai]] w (λv w'=>∃(κ':Col) (ra0:Option Addr) (ru0:Nat) (ra1:Option Addr) (ru1:Nat),v= .agg #[.slice ra0 r.Won.length ru0,.slice ra1 r.Plan.length ru1]/\Ent κ w κ' w'/\Oc E6 2 κ' w' 2 ra0 ru0 r.Won/\Oc E6 2 κ' w' 3 ra1 ru1 r.Plan):=by
 unfold kE at h
 refine Jk3 κ F45 R N45 R λhE=>Je [1,1] R<|Js3 (κ:=κ) 2 R λb1 w1 K2 S3 f4=>Tv<|Jt3 (κ:=K2) 3 R X85 R λb2 w5 K6 S7 f8=>Tv<|Jd<|Jq<|Je [1,1,2] R ?_
 have f9:=f4.stp S7
 refine Jb4 tv R (Jc4 (haE f9.cells) I79 Z79 R)<|Ob h λx4 hx4 h=>?_
 have f10:=g0_0_0.stp (S3.tr S7)
 have f11:=g0_0_1.stp (S3.tr S7)
 have f12:=g0_1.stp (S3.tr S7)
 refine Jr3 R C116 (qu (κ:=Mk K6) (p0:=p0) (Ji3 f10) (Ji3 f11) (Ji3 f12) hx4) ?_
 rintro _ w13 ⟨k14,rfl,e15⟩
 obtain⟨K16,S17,m18⟩:=Ji e15 4 R
 refine Tv<|Jb 1 R ?_
 revert h
 cases ht20:(!x4)
 refine JF λh=>Jy R<|Js<|Jp<|Jq<|Js1 (κ:=K16) [2] none [(1,2),(0,0),(2,0),(4,0),(3,1),(5,1),(6,1),(7,1)] [] (by kernel_rfl) (by kernel_rfl) λw27 S26=>Jd3 R U79 R Z75 ?_
 have f28:=f9.stp (S17.tr S26)
 refine Jg R (Jc4 (haC f28.cells R) I79 Z79 R)<|Jg R (Jc4 (haC (f28.lds 0 2 R) R) I75 Z75 R)<|Jg R (Jc4 (haC f28.cells R) I79 Z79 R)<|Ob h λx10 hx10 h=>?_
 have f29:=f10.stp (S17.tr S26)
 have f30:=f11.stp (S17.tr S26)
 refine Jr3 R C118 (tg (κ:=Mk K16) (p0:=p0.Arena) (Ji3 f29) (Ji3 f30) hx10) ?_
 rintro _ w31 ⟨k32,al,an,rfl,e33,f34⟩
 obtain⟨K35,S36,m37⟩:=Ji e33 6 R
 refine⟨(S36.cl R),Ob h λx12 hx12 h=>?_⟩
 have f40:=f29.stp S36
 have f41:=f30.stp S36
 have f42:=f12.stp (T3 S17 S26 S36)
 refine Jr3 R C44 (lD (κ:=Mk K35) (p0:=p0) (Ji3 f40) (Ji3 f41) (Ji3 f42) hx12) ?_
 rintro _ w43 ⟨k44,am,ao,rfl,e45,f46⟩
 obtain⟨K47,S48,m49⟩:=Ji e45 9 R
 refine⟨((S36.tr S48).cl R),Ob h λx13 hx13 h=>Jr3 R C117 (qD (κ:=Mk K47) (p0:=p0) (Ji3<|f40.stp S48) (Ji3<|f41.stp S48) (Ji3<|f42.stp S48) (Ji3 ((f34.mx (bL _) m37 R (R:6+2=8)).stp S48).rdc) (Ji3 (f46.mx (bL _) m49 R (R:9+2=11)).rdc) hx13) ?_⟩
 rintro _ w56 ⟨k57,ad,ae,ak,ab,rfl,e58,f59,f60⟩
 obtain⟨K61,S62,m63⟩:=Ji e58 12 R
 refine⟨((T3 S36 S48 S62).cl R),Jv3 (κ:=K61) 3 (vc:=[.slice ad x13.Won.length ae,.slice ak x13.Plan.length ab]) R Z85 R (f8.stp<|T5 S17 S26 S36 S48 S62) R λw68 S69 f70=>⟨((T4 S36 S48 S62 S69).cl R),Jt1<|Jd<|Ju<|Ja2 (l:=[.cell 2 85]) V45 (bM R f70 I85 Z85 R R) R ?_⟩⟩
 cases h
 exact⟨(λb=>ren [(14,2),(15,3)]<|K61 b),ad,ae,ak,ab,R,((hE.stp<|T8 S3 S7 S17 S26 S36 S48 S62 S69).map (ren [(14,2),(15,3)]) R R),(((f59.mx (bL _) m63 R (R:12+2=14)).stp S69).map (ren [(14,2),(15,3)]) R R),(((f60.mx (bL _) m63 R (R:12+3=15)).stp S69).map (ren [(14,2),(15,3)]) R R)⟩
 refine JT λh=>Jx R<|Je [2,1] R<|Jf R (bK (parts:=[]) (cells:=[.slice none 0 0,.slice none 0 0]) R R (by kernel_rfl))<|Jv3 (κ:=K16) 3 (vc:=[.slice none 0 0,.slice none 0 0]) R Z85 R (f8.stp S17) R λw22 S23 f24=>Tv<|Jd<|Ju<|Jw<|Ja2 (l:=[.cell 2 85]) V45 (bM R f24 I85 Z85 R R) R ?_
 cases h
 exact⟨K16,none,0,none,0,R,(hE.stp<|T4 S3 S7 S17 S23),Ow.nil,Ow.nil⟩
theorem pK {p0:Sig}{ai ak ah aj}{p1:Det}{p2:Int}{p3:Int}{p4:Int}(g1_0:Rd (Rp.sl (Rp.int .i64)) κ w 0 ai ak p1.Next) (g1_1:Rd Pair.rp κ w 0 ah aj p1.Pairs){r:(List Int)}(h:jb p0 p1 p2 p3 p4=some r):Ret Tryz.prog 50 [.agg #[vi p0.In,vi p0.Out],.agg #[.slice ai p1.Next.length ak,.slice ah p1.Pairs.length aj],vi p2,vi p3,vi p4] w (Pvs E6 2 κ w r):=by
 unfold jb at h
 refine Jk3 κ F50 R N50 R λhE=>Je [1,1,2] R<|Js3 (κ:=κ) 2 R λb5 w1 K2 S3 f4=>Tv<|Js3 (κ:=K2) 3 R λb6 w5 K6 S7 f8=>Tv<|Jb 1 R<|Jq<|Je [1,1,2,2,1,1,1,2,2,2,2,2,2,2,2,2,1,2,2,2,2,2,2,2,2,2,1,1,2,2] R ?_
 have f9:=f4.stp S7
 refine Jb4 tv R (Jc4 (haE f9.cells) I28 Z28 R)<|Ob h λx14 hx14 h=>Jr3 R C82 (nh (κ:=Mk K6) (p0:=p0) hx14) ?_
 rintro _ w10 ⟨k11,rfl,e12⟩
 obtain⟨K13,S14,m15⟩:=Ji e12 4 R
 refine Tv<|Jn 2 R<|Ob h λp21 h hK17=>Jq3 [2,3,4,5,6] (λE L w'=>L=(21,.bool p21)::E/\∃κ',Stp [] K13 w10 κ' w') [(4,1),(5,1),(6,1),(7,2),(8,2)] [(9,2),(10,2),(11,2),(12,2),(13,2),(14,2),(15,2),(16,1),(17,2),(18,2),(19,2),(20,2),(21,2),(22,2),(23,2),(24,2),(25,2),(26,1),(27,1),(28,2),(29,2)] tv ?_ ?_
 revert h
 cases ht18:(!x14)
 refine JF λh=>Jb4 tv R (Jc4 (haE (f9.stp S14).cells) I28 Z28 R)<|Jb4 tv R (Jc4 (haE (f8.stp S14).cells) I71 Z71 R)<|Ob h λx19 hx19 h=>Jr3 R C119 (qa (κ:=Mk K13) (p0:=p0) (p1:=p1) (Ji3<|g1_0.stp<|T3 S3 S7 S14) (Ji3<|g1_1.stp<|T3 S3 S7 S14) hx19) ?_
 rintro _ w23 ⟨k24,rfl,e25⟩
 obtain⟨K26,S27,m28⟩:=Ji e25 6 R
 refine Tv<|Jn 2 R ?_
 cases h
 exact Jv1 _ tv ⟨R,_,S27.wk R⟩<|KM R
 refine JT λh=>Jz3 R<|Jz3 R<|Jz3 R<|Jn 2 R ?_
 cases h
 exact Jv1 _ tv ⟨R,_,Jj3⟩<|KM R
 rintro _ w30 _ ⟨rfl,K31,S32⟩
 have h:=hK17
 refine Jn 1 R<|Ob h λp25 h hK33=>Jq3 [2,3,4,5,6] (λE L w'=>L=(25,.bool p25)::E/\∃κ',Stp [] K31 w30 κ' w') [(10,2),(11,2),(12,2)] [(13,2),(14,2),(15,2),(16,1),(17,2),(18,2),(19,2),(20,2),(21,2),(22,2),(23,2),(24,2),(25,2),(26,1),(27,1),(28,2),(29,2)] tv ?_ ?_
 revert h
 cases ht34:p21
 refine JF λh=>Jn 3 R ?_
 cases h
 exact Jv1 _ tv ⟨R,_,Jj3⟩<|KM R
 refine JT λh=>Jn 3 R ?_
 cases h
 exact Jv1 _ tv ⟨R,_,Jj3⟩<|KM R
 rintro _ w35 _ ⟨rfl,K36,S37⟩
 have h:=hK33
 refine Jn 1 R<|Ob h λp32 h hK38=>Jq3 [2,3,4,5,6] (λE L w'=>L=(32,.bool p32)::E/\∃κ',Stp [] K36 w35 κ' w') [(14,2),(15,2),(16,1),(17,2),(18,2),(19,2)] [(20,2),(21,2),(22,2),(23,2),(24,2),(25,2),(26,1),(27,1),(28,2),(29,2)] tv ?_ ?_
 revert h
 cases ht39:p25
 refine JF λh=>Jn 1 R<|Jd3 R U71 R Z31<|Jb3 R I31 ((f8.stp<|T3 S14 S32 S37).ld 0 R R)<|Jn3 R U31 R R<|Jn 2 R ?_
 cases h
 exact Jv1 _ tv ⟨R,_,Jj3⟩<|KM R
 refine JT λh=>Jn 2 R<|Jz3 R<|Jn 3 R ?_
 cases h
 exact Jv1 _ tv ⟨R,_,Jj3⟩<|KM R
 rintro _ w41 _ ⟨rfl,K42,S43⟩
 have h:=hK38
 refine Jn 1 R<|Ob h λp36 h hK44=>Jq3 [2,3,4,5,6] (λE L w'=>L=(36,.bool p36)::E/\∃κ',Stp [] K42 w41 κ' w') [(21,2),(22,2),(23,2)] [(24,2),(25,2),(26,1),(27,1),(28,2),(29,2)] tv ?_ ?_
 revert h
 cases ht45:p32
 refine JF λh=>Jn 3 R ?_
 cases h
 exact Jv1 _ tv ⟨R,_,Jj3⟩<|KM R
 refine JT λh=>Jn 3 R ?_
 cases h
 exact Jv1 _ tv ⟨R,_,Jj3⟩<|KM R
 rintro _ w46 _ ⟨rfl,K47,S48⟩
 have h:=hK44
 refine Jn 1 R<|Ob h λp42 h hK49=>Jq3 [2,3,4,5,6] (λE L w'=>L=(42,.bool p42)::E/\∃κ',Stp [] K47 w46 κ' w') [(25,2),(26,1),(27,1),(28,2),(29,2)] [] tv ?_ ?_
 revert h
 cases ht50:p36
 refine JF λh=>Jn 1 R<|Jb4 tv R (Jc4 (haE (f9.stp<|T5 S14 S32 S37 S43 S48).cells) I28 Z28 R)<|Ob h λx40 hx40 h=>Jr3 R C46 (fZ (κ:=Mk K47) (p0:=p0) hx40) ?_
 rintro _ w52 ⟨k53,rfl,e54⟩
 obtain⟨K55,S56,m57⟩:=Ji e54 6 R
 refine Tv<|Jn 2 R ?_
 cases h
 exact Jv1 _ tv ⟨R,_,S56.wk R⟩<|KM R
 refine JT λh=>Jn 1 R<|Jz3 R<|Jz3 R<|Jn 2 R ?_
 cases h
 exact Jv1 _ tv ⟨R,_,Jj3⟩<|KM R
 rintro _ w59 _ ⟨rfl,K60,S61⟩
 have h:=hK49
 refine Jd ?_
 revert h
 cases ht62:p42
 refine JF λh=>Jy R<|Js<|Jp<|Je [1,2] R<|Jx3 (κ:=K60) (E:=E6) 6 R Y37 bG R λal am w64 K65 S66 f67=>Tv<|Jb 1 R<|Jq<|Je [2,1,2,2] R<|Jd3 R U28 R Z2 ?_
 have f68:=f9.stp (T7 S14 S32 S37 S43 S48 S61 S66)
 refine Jb3 R I2 (f68.ld 1 R R)<|Ob h λ_z46 hz46 h=>Jf R (qZ R R R<|uv hz46)<|Jb 1 R<|Ob h λ_ hr69 h=>?_
 have hN69:=jo hr69
 refine Ob h λq2 hq71 hK70=>?_
 clear h
 refine Jx1 (λL w'=>∃κ',∃s3:(List Int),∃af ad,L=[(11,.slice af s3.length ad)]/\Stp [6] K65 w64 κ' w'/\Oc E6 2 κ' w' 6 af ad s3/\q2=yD s3) ?_ ?_
 refine Jv<|Jp3 [2,3,4,5,6,46] (λk E L w'=>∃κ' v47,∃s1:(List Int),∃ab aa,L=(11,.slice ab s1.length aa)::(47,vi v47)::E/\Stp [6] K65 w64 κ' w'/\Oc E6 2 κ' w' 6 ab aa s1/\0<=v47/\yG ((IntKind.i64.wrap (1 * 2 ^ (min (yG p0.Out)<|IntKind.bits IntKind.i64)))-v47)=k/\cntM (fh p0 p1 p2 p3 p4) k v47 s1=some q2) ⟨_,_,⟨K65,0,(([]:List Int):(List Int)),al,am,R,Jj3,f67,(by decide),(by simp),hq71⟩,(KM R)⟩ ?_
 rintro k _ w76 ⟨K77,v47,s1,ab,aa,rfl,S78,f79,hj69,hJ69,h⟩
 rcases k with _ | k
 have hk80:=h;obtain⟨o69,h⟩:=bT (yD (yE s1):(List Int)⊕(((List Int))⊕((List Int))))
 have hc69:decide (v47<(IntKind.i64.wrap (1 * 2 ^ (min (yG p0.Out) (IntKind.bits IntKind.i64)))))=false:=Jo2 (by omega)
 refine Je3 R<|Jq<|Jw2 R hc69<|Jc1<|Jt<|Jt ?_
 cases h
 have h:=hk80
 refine Jb1 ?_
 cases h
 exact Jw1 _ ⟨K77,s1,ab,aa,R,S78.wk R,f79,R⟩<|KM R
 obtain⟨o69,h,hk80⟩:=BI h;unfold fh at h
 have hc69:decide (v47<(IntKind.i64.wrap (1 * 2 ^ (min (yG p0.Out) (IntKind.bits IntKind.i64)))))=true:=Jn2 (by omega)
 refine Je3 R<|Jq<|Jv2 R hc69<|Js<|Jp<|Jq<|Jv<|Je3 R<|Jq<|Js1 (κ:=K77) [0,2,3] none [(0,2),(2,2),(5,2),(9,2),(13,2),(1,0),(3,2),(4,0),(6,0),(7,1),(8,2),(10,2),(11,2),(12,0),(14,2)] [] (by kernel_rfl) (by kernel_rfl) λw82 S81=>Jd3 R U71 R Z31<|Jn 4 R<|Jg R (Jc2 I31 R R<|hvC ((f8.stp<|T9 S14 S32 S37 S43 S48 S61 S66 S78 S81).ld 0 R R) R)<|Ob h λx53 hx53 h=>Jc3 R g1_0 hx53 U31 Z37 ?_
 obtain⟨ax53,ux53,f85,hl86⟩:=(g1_0.stp (T11 S3 S7 S14 S32 S37 S43 S48 S61 S66 S78 S81)).gSl hx53
 refine Jg R (Jc2 I37 R R<|hvC hl86 R)<|Jg R (Jc4 (haC (f68.stp<|S78.tr S81).cells R) I28 Z28 R)<|Ob h λx57 hx57 h=>Jr3 R C46 (fZ (κ:=Mk K77) (p0:=p0) hx57) ?_
 rintro _ w88 ⟨k89,rfl,e90⟩
 obtain⟨K91,S92,m93⟩:=Ji e90 7 R
 refine⟨(S92.cl R),Jn 2 R<|Ob h λx61 hx61 h=>Jc3 R f85 hx61 U37 Z2<|Jg R (Jc2 I2 R R<|hvC (f85.gInt hx61) R)<|Jn 1 R<|Jt1<|Jd<|Ob h λq4 h hK95=>Jo3 [2,3,4,5,6,46,47] (λE L w'=>∃κ' ae ac,L=(11,.slice ae q4.length ac)::E/\Stp [6] K91 w88 κ' w'/\Oc E6 2 κ' w' 6 ae ac q4) ?_ ?_⟩
 revert h
 cases ht100:(x61==p4)
 refine JF λh=>Jy R<|Js ?_
 cases h
 exact Jw1 _ ⟨K91,ab,aa,R,Jj3,(f79.stp<|S81.tr S92)⟩<|KM R
 refine JT λh=>Jx R<|Jh3 [2,2,1,1,2] 2 R<|Jw3 (κ:=K91) (E:=E6) 9 [] (parts:=[(0,.tmp 66)]) (cells:=[vi v47]) (xs:=([v47]:List Int)) R Y37 bG R ⟨[vi v47],[],Zl K91 w88 [],Zl K91 w88 [],R,Zl.sp (l1:=[]) (l2:=[]) R,Zl.sr (l1:=[]) (l2:=[]),R,R⟩ λaq ap w101 K102 S103 f104=>Tv<|Ob h λx68 hx68 h=>Jy3 (κ:=K102) (E:=E6) 6 [] R Y37 bG R (f79.stp<|T3 S81 S92 S103) (Sl.srcP (bP _) f104.rdc) bI hx68 R λan ao w106 K107 S108 f109=>Tv<|Jc 1 R ?_
 cases h
 exact Jw1 _ ⟨K107,an,ao,R,(S103.tr S108).wk R,f109⟩<|KM R
 rintro _ w96 ⟨K97,ae,ac,rfl,S98,f99⟩
 have h:=hK95
 refine Jz<|Jp<|Jf3 R ?_
 have hw69:yC .i64 (v47+1)=v47+1:=wr1 hj69 (Jm2 hc69) hN69
 rw[hw69]
 have hc69:=Jm2 hc69
 cases h
 exact Jz1 λa ha=>⟨k,_,Ja3 _,⟨K97,v47+1,q4,ae,ac,R,(T4 S78 S81 S92 S98).wk R,f99,by omega,by omega,hk80⟩,(ha.mm R)⟩
 rintro _ w72 ⟨K73,s3,af,ad,rfl,S74,f75,rfl⟩
 have h:=yI hK70
 refine Jp<|Je3 R<|Ju<|Ja2 (l:=[.tmp 10]) V50 (Jp2 R R) R ?_
 cases h
 exact⟨(λb=>ren [(6,2)]<|K73 b),af,ad,R,((hE.stp<|T10 S3 S7 S14 S32 S37 S43 S48 S61 S66 S74).map (ren [(6,2)]) R R),(f75.map (ren [(6,2)]) R R)⟩
 refine JT λh=>Jx R<|Je3 R<|Ju<|Jw<|Ja2 (l:=[.tmp 10]) V50 (Jp2 R R) R ?_
 cases h
 exact⟨K60,none,0,R,(hE.stp<|T8 S3 S7 S14 S32 S37 S43 S48 S61),Ow.nil⟩
theorem lJ {p0:Sig}{ab ac aa ad}{p1:Det}(g1_0:Rd (Rp.sl (Rp.int .i64)) κ w 0 ab ac p1.Next) (g1_1:Rd Pair.rp κ w 0 aa ad p1.Pairs){r:Bool}(h:kr p0 p1=some r):Ret Tryz.prog 123 [.agg #[vi p0.In,vi p0.Out],.agg #[.slice ab p1.Next.length ac,.slice aa p1.Pairs.length ad]] w (Pvb κ w r):=by
 unfold kr at h
 refine Jk3 κ F123 R N123 R λhE=>Je [1,1,2] R<|Js3 (κ:=κ) 2 R λb2 w1 K2 S3 f4=>Tv<|Js3 (κ:=K2) 3 R λb3 w5 K6 S7 f8=>Tv<|Jb 1 R<|Je [2,1,2,2] R<|Jd3 R U71 R Z31<|Jb3 R I31 (f8.ld 0 R R)<|Jn3 R U31 R R<|Jb 1 R<|Jq<|Je [1,1,2,2,2,1,2,2] R ?_
 have f9:=f4.stp S7
 refine Jb4 tv R (Jc4 (haE f9.cells) I28 Z28 R)<|Ob h λx11 hx11 h=>Jr3 R C58 (gz (κ:=Mk K6) (p0:=p0) hx11) ?_
 rintro _ w10 ⟨k11,rfl,e12⟩
 obtain⟨K13,S14,m15⟩:=Ji e12 4 R
 refine Tv<|Jn 2 R<|Ob h λp17 h hK17=>Jq3 [2,3,5] (λE L w'=>L=(17,.bool p17)::E/\∃κ',Stp [] K13 w10 κ' w') [(4,2),(5,1),(6,2),(7,2)] [] tv ?_ ?_
 revert h
 cases ht18:(!x11)
 refine JF λh=>Jn 1 R<|Ob h λx15 hx15 h=>Jr3 R C59 (cX (κ:=Mk K13) hx15) ?_
 rintro _ w19 ⟨k20,rfl,e21⟩
 obtain⟨K22,S23,m24⟩:=Ji e21 6 R
 refine Tv<|Jn 2 R ?_
 cases h
 exact Jv1 _ tv ⟨R,_,S23.wk R⟩<|KM R
 refine JT λh=>Jn 1 R<|Jz3 R<|Jn 2 R ?_
 cases h
 exact Jv1 _ tv ⟨R,_,Jj3⟩<|KM R
 rintro _ w26 _ ⟨rfl,K27,S28⟩
 have h:=hK17
 refine Jd ?_
 revert h
 cases ht29:p17
 refine JF λh=>Jy R<|Js<|Jp<|Jq<|Je3 R ?_
 have hN31:(p1.Next.length:Int)<=9223372036854775807:=g1_0.len_le
 refine Ob h λq2 hq33 hK32=>?_
 clear h
 refine Jo3 [3,5] (λE L w'=>∃κ',L=E/\Stp [] K27 w26 κ' w'/\q2=yD ()) ?_ ?_
 refine Jv<|Jp3 [2,3,5] (λk E L w'=>∃κ' v6,L=(6,vi v6)::E/\Stp [] K27 w26 κ' w'/\0<=v6/\yG ((p1.Next.length:Int)-v6)=k/\cntM (jN p0 p1) k v6 ()=some q2) ⟨_,_,⟨K27,0,R,Jj3,(by decide),(by simp),hq33⟩,(KM R)⟩ ?_
 rintro k _ w37 ⟨K38,v6,rfl,S39,hj31,hJ31,h⟩
 rcases k with _ | k
 have hk40:=h;obtain⟨o31,h⟩:=bT (yD (yE ()):Bool⊕((Unit)⊕(Unit)))
 have hc31:decide (v6<(p1.Next.length:Int))=false:=Jo2 (by omega)
 refine Jq<|Jg3 [2,2,1,2,2] 1 R<|Jd3 R U71 R Z31<|Jb3 R I31 ((f8.stp<|T3 S14 S28 S39).ld 0 R R)<|Jn3 R U31 R R<|Jb 1 R<|Jw2 R hc31<|Jc1<|Jt<|Jt ?_
 cases h
 have h:=hk40
 refine Jb1 ?_
 cases h
 exact Jw1 _ ⟨K38,R,S39.wk R,R⟩<|KM R
 obtain⟨o31,h,hk40⟩:=BI h;unfold jN at h
 have hc31:decide (v6<(p1.Next.length:Int))=true:=Jn2 (by omega)
 refine Jq<|Jg3 [2,2,1,2,2] 1 R<|Jd3 R U71 R Z31 ?_
 have f42:=f8.stp (T3 S14 S28 S39)
 refine Jb3 R I31 (f42.ld 0 R R)<|Jn3 R U31 R R<|Jb 1 R<|Jv2 R hc31<|Js<|Jp<|Jq<|Jv<|Jq<|Js1 (κ:=K38) [0,2,3] none [(0,2),(2,2),(1,0),(3,2),(4,0),(5,2),(6,0),(7,1),(8,2),(9,2),(10,2),(12,2),(15,2),(11,0),(13,2),(14,0),(16,1),(17,2),(18,2)] [] (by kernel_rfl) (by kernel_rfl) λw44 S43=>Jd3 R U71 R Z31<|Jn 1 R ?_
 have f45:=f42.stp S43
 refine Jg R (Jc2 I31 R R<|hvC (f45.ld 0 R R) R)<|Ob h λx28 hx28 h=>Jc3 R g1_0 hx28 U31 Z37 ?_
 have f46:=g1_0.stp (T6 S3 S7 S14 S28 S39 S43)
 obtain⟨ax28,ux28,f47,hl48⟩:=f46.gSl hx28
 refine Jg R (Jc2 I37 R R<|hvC hl48 R)<|Jn3 R U37 R R<|Jg R (Jc4 (haC (f9.stp<|T4 S14 S28 S39 S43).cells R) I28 Z28 R)<|Ob h λx32 hx32 h=>Jr3 R C120 (eu (κ:=Mk K38) (p0:=p0) hx32) ?_
 rintro _ w50 ⟨k51,rfl,e52⟩
 obtain⟨K53,S54,m55⟩:=Ji e52 6 R
 refine⟨(S54.cl R),Jn 2 R<|Ob h λp43 h hK57=>Jq3 [2,3,5,6] (λE L w'=>L=(43,.bool p43)::E/\∃κ',Stp [] K53 w50 κ' w') [(10,2),(12,2),(15,2),(11,0),(13,2),(14,0),(16,1),(17,2),(18,2)] [] (S54.cl R) ?_ ?_⟩
 revert h
 cases ht58:((x28.length:Int) !=x32)
 refine JF λh=>Jd3 R U71 R Z31<|Jn 2 R<|Jg R (Jc2 I31 R R<|hvC (f45.ld 0 R R) R)<|Ob h λx38 hx38 h=>Jc3 R f46 hx38 U31 Z37 ?_
 obtain⟨ax38,ux38,f59,hl60⟩:=f46.gSl hx38
 refine Jg R (Jc2 I37 R R<|hvC hl60 R)<|Ob h λx41 hx41 h=>Jr3 R C61 (eW (κ:=Mk K53) (Ji3<|f59.stp S54) hx41) ?_
 rintro _ w62 ⟨k63,rfl,e64⟩
 obtain⟨K65,S66,m67⟩:=Ji e64 8 R
 refine⟨((S54.tr S66).cl R),Jn 2 R ?_⟩
 cases h
 exact Jv1 _ ((S54.tr S66).cl R) ⟨R,_,S66.wk R⟩<|KM R
 refine JT λh=>Jn 3 R<|Ja4 R<|Jn 1 R<|Ja4 R<|Jz3 R<|Jn 2 R ?_
 cases h
 exact Jv1 _ (S54.cl R) ⟨R,_,Jj3⟩<|KM R
 rintro _ w69 _ ⟨rfl,K70,S71⟩
 have h:=hK57
 refine Jt1<|Jd ?_
 revert h
 cases ht72:p43
 refine JF λh=>Jy R<|Js<|Jz<|Jp<|Jf3 R ?_
 have hw31:yC .i64 (v6+1)=v6+1:=wr1 hj31 (Jm2 hc31) hN31
 rw[hw31]
 have hc31:=Jm2 hc31
 cases h
 exact Jz1 λa ha=>⟨k,_,Ja3 _,⟨K70,v6+1,R,(T4 S39 S43 S54 S71).wk R,by omega,by omega,hk40⟩,(ha.mm R)⟩
 refine JT λh=>Jx R<|Je3 R<|Ju<|Ja1<|Jw<|Jw ?_
 cases h
 obtain rfl:=Option.some.inj hk40
 have h:=yL hK32
 refine Ja1<|Jq2<|Jw<|Ja2 (l:=[.tmp 4]) V123 (Jp2 R R) R ?_
 cases h
 exact⟨K70,R,(hE.stp<|T8 S3 S7 S14 S28 S39 S43 S54 S71)⟩
 rintro _ w34 ⟨K35,rfl,S36,rfl⟩
 have h:=yI hK32
 refine Jp<|Je [2,1,2,1,2] R<|Jd3 R U71 R Z69<|Jb3 R I69 ((f8.stp<|T3 S14 S28 S36).ld 1 R R)<|Jn 1 R<|Ob h λx47 hx47 h=>Jr3 R C133 (nW (κ:=Mk K35) (Ji3<|g1_1.stp<|T5 S3 S7 S14 S28 S36) hx47) ?_
 rintro _ w76 ⟨k77,rfl,e78⟩
 obtain⟨K79,S80,m81⟩:=Ji e78 6 R
 refine Tv<|Jb 1 R<|Ju<|Ja2 (l:=[.tmp 4]) V123 (Jp2 R R) R ?_
 cases h
 exact⟨K79,R,(hE.stp<|T6 S3 S7 S14 S28 S36 S80)⟩
 refine JT λh=>Jx R<|Je3 R<|Ju<|Jw<|Ja2 (l:=[.tmp 4]) V123 (Jp2 R R) R ?_
 cases h
 exact⟨K27,R,(hE.stp<|T4 S3 S7 S14 S28)⟩
theorem qy {aP aQ aT aS}{p0:Arena}{a1 u1}{p1:(List Pair)}{p2:Int}(g0_0:Rd (Rp.int .i64) κ w 0 aP aQ p0.Owner) (g0_1:Rd (Rp.sl (Rp.int .i64)) κ w 0 aT aS p0.Next) (g1:Rd Pair.rp κ w 0 a1 u1 p1){r:Parity×(List Place)×Bool}(h:fl p0 p1 p2=some r):Ret Tryz.prog 66 [.agg #[.slice aP p0.Owner.length aQ,.slice aT p0.Next.length aS],.slice a1 p1.length u1,vi p2] w (λv w'=>∃(κ':Col) (ra0:Option Addr) (ru0:Nat) (ra1:Option Addr) (ru1:Nat) (ra2:Option Addr) (ru2:Nat) (ra3:Option Addr) (ru3:Nat),v= .tuple #[.agg #[.slice ra0 r.1.Arena.Owner.length ru0,.slice ra1 r.1.Arena.Next.length ru1,.slice ra2 r.1.Prio.length ru2],.slice ra3 r.2.1.length ru3,.bool r.2.2]/\Ent κ w κ' w'/\Oc E6 2 κ' w' 2 ra0 ru0 r.1.Arena.Owner/\Oc (Ep.own E6 2) 37 κ' w' 3 ra1 ru1 r.1.Arena.Next/\Oc E6 2 κ' w' 4 ra2 ru2 r.1.Prio/\Oc (Ep.fz Place.rp) 88 κ' w' 5 ra3 ru3 r.2.1):=by
 unfold fl at h
 refine Jk3 κ F66 R N66 R λhE=>Je [1,1,2,2] R<|Js3 (κ:=κ) 2 R λb3 w1 K2 S3 f4=>Tv<|Jt3 (κ:=K2) 3 R X79 R λb6 w5 K6 S7 f8=>Tv<|Jb 2 R<|Je [2,1,2,2] R<|Jd3 R U75 R Z37 ?_
 have f9:=f4.stp S7
 refine Jb3 R I37 (f9.ld 0 R R)<|Jn3 R U37 R R<|Jb 1 R<|Jq<|Je [1,1,2,2,2,2,1,2,2,2,2,2,2,1,2,2] R<|Jb4 tv R (Jc4 (haE f9.cells) I75 Z75 R)<|Ob h λx25 hx25 h=>?_
 have f10:=g0_0.stp (S3.tr S7)
 have f11:=g0_1.stp (S3.tr S7)
 refine Jr3 R C132 (ny (κ:=Mk K6) (p0:=p0) (Ji3 f10) (Ji3 f11) hx25) ?_
 rintro _ w12 ⟨k13,rfl,e14⟩
 obtain⟨K15,S16,m17⟩:=Ji e14 4 R
 refine Tv<|Jn 2 R<|Ob h λp32 h hK19=>Jq3 [1,2,3,6,9] (λE L w'=>L=(32,.bool p32)::E/\∃κ',Stp [] K15 w12 κ' w') [(4,2),(5,2),(6,1),(7,2),(8,2)] [(9,2),(10,2),(11,2),(12,2),(13,1),(14,2),(15,2)] tv ?_ ?_
 revert h
 cases ht20:(!x25)
 refine JF λh=>Jn 2 R<|Ob h λx30 hx30 h=>Jr3 R C133 (nW (κ:=Mk K15) (Ji3<|g1.stp<|T3 S3 S7 S16) hx30) ?_
 rintro _ w22 ⟨k23,rfl,e24⟩
 obtain⟨K25,S26,m27⟩:=Ji e24 6 R
 refine Tv<|Jn 2 R ?_
 cases h
 exact Jv1 _ tv ⟨R,_,S26.wk R⟩<|KM R
 refine JT λh=>Jn 2 R<|Jz3 R<|Jn 2 R ?_
 cases h
 exact Jv1 _ tv ⟨R,_,Jj3⟩<|KM R
 rintro _ w29 _ ⟨rfl,K30,S31⟩
 have h:=hK19
 refine Jn 1 R<|Ob h λp39 h hK32=>Jq3 [1,2,3,6] (λE L w'=>L=(39,.bool p39)::E/\∃κ',Stp [] K30 w29 κ' w') [(10,2),(11,2),(12,2),(13,1),(14,2),(15,2)] [] tv ?_ ?_
 revert h
 cases ht33:p32
 refine JF λh=>Jn 3 R<|Ob h λx37 hx37 h=>Jr3 R C59 (cX (κ:=Mk K30) hx37) ?_
 rintro _ w34 ⟨k35,rfl,e36⟩
 obtain⟨K37,S38,m39⟩:=Ji e36 6 R
 refine Tv<|Jn 2 R ?_
 cases h
 exact Jv1 _ tv ⟨R,_,S38.wk R⟩<|KM R
 refine JT λh=>Jn 3 R<|Jz3 R<|Jn 2 R ?_
 cases h
 exact Jv1 _ tv ⟨R,_,Jj3⟩<|KM R
 rintro _ w41 _ ⟨rfl,K42,S43⟩
 have h:=hK32
 refine Jd ?_
 revert h
 cases ht44:p39
 refine JF λh=>Jy R<|Js<|Jp<|Je [1,2] R<|Jx3 (κ:=K42) (E:=E6) 6 R Y37 bG R λaW aY w55 K56 S57 f58=>Tv<|Jb 1 R<|Jq<|Je3 R ?_
 have hN59:(p1.length:Int)<=9223372036854775807:=g1.len_le
 refine Ob h λq2 hq61 hK60=>?_
 clear h
 refine Jo3 [1,2,3,6] (λE L w'=>∃κ',∃s3:(List Int),∃ad aa,L=(10,.slice ad s3.length aa)::E/\Stp [6] K56 w55 κ' w'/\Oc E6 2 κ' w' 6 ad aa s3/\q2=yD s3) ?_ ?_
 refine Jv<|Jp3 [1,2,3,6] (λk E L w'=>∃κ' v11,∃s1:(List Int),∃ay aw,L=(10,.slice ay s1.length aw)::(11,vi v11)::E/\Stp [6] K56 w55 κ' w'/\Oc E6 2 κ' w' 6 ay aw s1/\0<=v11/\yG ((p1.length:Int)-v11)=k/\cntM dM k v11 s1=some q2) ⟨_,_,⟨K56,0,(([]:List Int):(List Int)),aW,aY,R,Jj3,f58,(by decide),(by simp),hq61⟩,(KM R)⟩ ?_
 rintro k _ w66 ⟨K67,v11,s1,ay,aw,rfl,S68,f69,hj59,hJ59,h⟩
 rcases k with _ | k
 have hk70:=h;obtain⟨o59,h⟩:=bT (yD (yE s1):(Parity×(List Place)×Bool)⊕(((List Int))⊕((List Int))))
 have hc59:decide (v11<(p1.length:Int))=false:=Jo2 (by omega)
 refine Jq<|Jg3 [2,2,2,2] 2 R<|Jn3 R U69 R R<|Jb 1 R<|Jw2 R hc59<|Jc1<|Jt<|Jt ?_
 cases h
 have h:=hk70
 refine Jb1 ?_
 cases h
 exact Jw1 _ ⟨K67,s1,ay,aw,R,S68.wk R,f69,R⟩<|KM R
 obtain⟨o59,h,hk70⟩:=BI h;unfold dM at h
 have hc59:decide (v11<(p1.length:Int))=true:=Jn2 (by omega)
 refine Jq<|Jg3 [2,2,2,2] 2 R<|Jn3 R U69 R R<|Jb 1 R<|Jv2 R hc59<|Js<|Jp<|Jq<|Jv<|Jh3 [2,2,1,1,2] 2 R<|Jw3 (κ:=K67) (E:=E6) 7 [] (parts:=[(0,.tmp 50)]) (cells:=[vi v11]) (xs:=([v11]:List Int)) R Y37 bG R ⟨[vi v11],[],Zl K67 w66 [],Zl K67 w66 [],R,Zl.sp (l1:=[]) (l2:=[]) R,Zl.sr (l1:=[]) (l2:=[]),R,R⟩ λbu bl w71 K72 S73 f74=>Tv<|Ob h λx52 hx52 h=>Jy3 (κ:=K72) (E:=E6) 6 [] R Y37 bG R (f69.stp S73) (Sl.srcP (bP _) f74.rdc) bI hx52 R λbc aV w76 K77 S78 f79=>Tv<|Jc 1 R<|Jz<|Jp<|Jf3 R ?_
 have hw59:yC .i64 (v11+1)=v11+1:=wr1 hj59 (Jm2 hc59) hN59
 rw[hw59]
 have hc59:=Jm2 hc59
 cases h
 exact Jz1 λa ha=>⟨k,_,Ja3 _,⟨K77,v11+1,x52,bc,aV,R,(T3 S68 S73 S78).wk R,f79,by omega,by omega,hk70⟩,(ha.mm R)⟩
 rintro _ w62 ⟨K63,s3,ad,aa,rfl,S64,f65,rfl⟩
 have h:=yI hK60
 refine Jp<|Jg3 [2,2,2,1,2] 2 R<|Jf R (bK (parts:=[(0,.tmp 53),(1,.tmp 54)]) (cells:=[vi p2,.slice ad s3.length aa]) R R (by kernel_rfl)) ?_
 obtain⟨K80,S81,z82⟩:=fV K63 w62 6
 refine Jw3 (κ:=K80) (E:=(Ep.fz Place.rp)) 7 [] (parts:=[(0,.tmp 55)]) (cells:=[vi p2,.slice ad s3.length aa]) (xs:=([(⟨p2,s3⟩:Place)]:List Place)) R Y80 fk R ⟨[vi p2,.slice ad s3.length aa],[],Zl K80 w62 [],Zl K80 w62 [],R,Zl.sp (l1:=[]) (l2:=[]) R,Zl.sr (l1:=[]) (l2:=[]),(Place.mk_rel (x:=(⟨p2,s3⟩:Place))<|Sl.z1<|Sl.st z82 f65.rdc),R⟩ λbe bj w84 K85 S86 f87=>Tv<|Jb 1 R<|Je [2,1,1] R<|Jf R (bK (parts:=[]) (cells:=[.slice none 0 0,.slice none 0 0,.slice none 0 0]) R R (by kernel_rfl))<|Jt3 (κ:=K85) 8 R X79 R λb13 w88 K89 S90 f91=>Tv<|Jv3 (κ:=K89) 8 (vc:=[.slice none 0 0,.slice none 0 0,.slice none 0 0]) R Z79 R f91 R λw92 S93 f94=>Tv<|Jd<|Jq<|Je3 R<|Ob h λq5 hq97 hK96=>?_
 clear h
 refine Jo3 [6,13] (λE L w'=>∃κ',∃s6:(List Place)×Int×(List Int)×(List<|List Int)×(List Int),∃aB aE aj aq ar am au ao,L=(12,.slice aB s6.1.length aE)::E/\Stp [7,8,9,10,11,12,16,19,20,21] K89 w92 κ' w'/\Oc (Ep.fz Place.rp) 88 κ' w' 7 aB aE s6.1/\Oc E6 2 κ' w' 9 aj aq s6.2.2.1/\Oc (Ep.own E6 2) 37 κ' w' 10 ar am s6.2.2.2.1/\Oc E6 2 κ' w' 11 au ao s6.2.2.2.2/\Bc κ' w' 8 b13 79 [.slice aj s6.2.2.1.length aq,.slice ar s6.2.2.2.1.length am,.slice au s6.2.2.2.2.length ao]/\q5=yD s6) ?_ ?_
 refine Jv<|Jp3 [1,3,6,13] (λk E L w'=>∃κ',∃s4:(List Place)×Int×(List Int)×(List<|List Int)×(List Int),∃af ap av aG an al ac ab,L=(12,.slice af s4.1.length ap)::(14,vi s4.2.1)::E/\Stp [7,8,9,10,11,12,16,19,20,21] K89 w92 κ' w'/\Oc (Ep.fz Place.rp) 88 κ' w' 7 af ap s4.1/\Oc E6 2 κ' w' 9 av aG s4.2.2.1/\Oc (Ep.own E6 2) 37 κ' w' 10 an al s4.2.2.2.1/\Oc E6 2 κ' w' 11 ac ab s4.2.2.2.2/\Bc κ' w' 8 b13 79 [.slice av s4.2.2.1.length aG,.slice an s4.2.2.2.1.length al,.slice ac s4.2.2.2.2.length ab]/\ca (dN p0 p1) k s4=some q5) ⟨_,_,⟨K89,((([(⟨p2,s3⟩:Place)]:List Place):(List Place)),(0:Int),(([]:List Int):(List Int)),(([]:List (List Int)):(List<|List Int)),(([]:List Int):(List Int))),be,bj,none,0,none,0,none,0,R,Jj3,(f87.stp<|S90.tr S93),Ow.nil,Ow.nil,Ow.nil,f94,hq97⟩,(KM R)⟩ ?_
 rintro k _ w106 ⟨K107,s4,af,ap,av,aG,an,al,ac,ab,rfl,S108,f109,f110,f111,f112,f113,h⟩
 rcases k with _ | k
 cases h
 obtain⟨o95,h,hk115⟩:=BI h;unfold dN at h
 refine Jq<|Jg3 [2,2,2,2] 2 R<|Jn3 R U80 R R<|Jb 1 R ?_
 revert h
 cases ht116:decide (s4.2.1<(s4.1.length:Int))
 refine JF λh=>Jy R<|Jc1<|Jt<|Jt ?_
 cases h
 have h:=hk115
 refine Jb1 ?_
 cases h
 exact Jw1 _ ⟨K107,(s4.1,s4.2.1,s4.2.2.1,s4.2.2.2.1,s4.2.2.2.2),af,ap,av,aG,an,al,ac,ab,R,S108.wk R,f109,f110,f111,f112,f113,R⟩<|KM R
 refine JT λh=>Jx R<|Js<|Jp<|Jq<|Jv<|Jg3 [2,2,2,1,1,1] 2 R<|Ob h λx66 hx66 h=>Jc3 R f109.rdc hx66 U80 Z88 ?_
 obtain⟨cse117,hre117,hle117⟩:=Ow.gZS f109 hx66
 obtain⟨ae117_0,ue117_0,rfl,fe117_0⟩:=Place.un hre117
 refine Jb4 tv R (Jc4 (haE hle117) I88 Z88 R)<|Jt3 (κ:=K107) 12 R X88 R λb15 w118 K119 S120 f121=>Tv<|Jv3 (κ:=K119) 12 (vc:=[vi x66.At,.slice ae117_0 x66.Record.length ue117_0]) R Z88 R f121 R λw122 S123 f124=>Tv<|Jd<|Jg3 [2,2,1,2,1,1,2] 1 R<|Jd3 R U88 R Z37<|Jb3 R I37 (f124.ld 1 R R)<|Jd3 R U88 R Z2<|Jb3 R I2 (f124.ld 0 R R)<|Ob h λx73 hx73 h=>?_
 have f125:=g1.stp (T14 S3 S7 S16 S31 S43 S57 S64 S81 S86 S90 S93 S108 S120 S123)
 have f126:=fe117_0.stp (S120.tr S123)
 refine Jr3 R C134 (rS (κ:=Mk K119) (Ji3 f125) (Ji3 f126) hx73) ?_
 rintro _ w127 ⟨k128,bq,bv,rfl,e129,f130⟩
 obtain⟨K131,S132,m133⟩:=Ji e129 13 R
 refine Tv<|Jb 1 R<|Je [1,2] R<|Jx3 (κ:=K131) (E:=E6) 16 R Y37 bG R λbi bb w136 K137 S138 f139=>Tv<|Jb 1 R<|Jq<|Je3 R<|Ob h λq8 hq142 hK141=>?_
 clear h
 refine Jo3 [1,3,6,13,14,15] (λE L w'=>∃κ',∃s9:(List Place)×(List Int)×Int,∃aD ax aK aN,L=(12,.slice aD s9.1.length ax)::(17,.slice aK s9.2.1.length aN)::E/\Stp [7,16,19,20] K137 w136 κ' w'/\Oc (Ep.fz Place.rp) 88 κ' w' 7 aD ax s9.1/\Oc E6 2 κ' w' 16 aK aN s9.2.1/\q8=yD s9) ?_ ?_
 refine Jv<|Jp3 [1,3,6,13,14,15,16] (λk E L w'=>∃κ',∃s7:(List Place)×(List Int)×Int,∃ak ah aA aF,L=(12,.slice ak s7.1.length ah)::(17,.slice aA s7.2.1.length aF)::(18,vi s7.2.2)::E/\Stp [7,16,19,20] K137 w136 κ' w'/\Oc (Ep.fz Place.rp) 88 κ' w' 7 ak ah s7.1/\Oc E6 2 κ' w' 16 aA aF s7.2.1/\ca (eZ p0 x66 x73) k s7=some q8) ⟨_,_,⟨K137,(s4.1,(([]:List Int):(List Int)),(0:Int)),af,ap,bi,bb,R,Jj3,(f109.stp<|T4 S120 S123 S132 S138),f139,hq142⟩,(KM R)⟩ ?_
 rintro k _ w148 ⟨K149,s7,ak,ah,aA,aF,rfl,S150,f151,f152,h⟩
 rcases k with _ | k
 cases h
 obtain⟨o140,h,hk154⟩:=BI h;unfold eZ at h
 refine Jq<|Jg3 [2,2,1,2,1,2,1,2,2] 1 R<|Jd3 R U75 R Z31 ?_
 have f155:=f9.stp (T15 S16 S31 S43 S57 S64 S81 S86 S90 S93 S108 S120 S123 S132 S138 S150)
 refine Jb3 R I31 (f155.ld 1 R R)<|Jd3 R U88 R Z2 ?_
 have f156:=f124.stp (T3 S132 S138 S150)
 refine Jb3 R I2 (f156.ld 0 R R)<|Ob h λx80 hx80 h=>Jc3 R f11 hx80 U31 Z37 ?_
 have f157:=f11.stp (T15 S16 S31 S43 S57 S64 S81 S86 S90 S93 S108 S120 S123 S132 S138 S150)
 obtain⟨ax80,ux80,f158,hl159⟩:=f157.gSl hx80
 refine Jb3 R I37 hl159<|Jn3 R U37 R R<|Jb 1 R ?_
 revert h
 cases ht160:decide (s7.2.2<(x80.length:Int))
 refine JF λh=>Jy R<|Jc1<|Jt<|Jt ?_
 cases h
 have h:=hk154
 refine Jb1 ?_
 cases h
 exact Jw1 _ ⟨K149,(s7.1,s7.2.1,s7.2.2),ak,ah,aA,aF,R,S150.wk R,f151,f152,R⟩<|KM R
 refine JT λh=>Jx R<|Js<|Jp<|Jq<|Jv<|Je [2,1,2,1,2,1,2,2,1,2] R<|Jd3 R U75 R Z31<|Jb3 R I31 (f155.ld 1 R R)<|Jd3 R U88 R Z2<|Jb3 R I2 (f156.ld 0 R R)<|Ob h λx90 hx90 h=>Jc3 R f157 hx90 U31 Z37 ?_
 obtain⟨ax90,ux90,f161,hl162⟩:=f157.gSl hx90
 refine Jb3 R I37 hl162<|Jn 1 R<|Ob h λx93 hx93 h=>Jc3 R f161 hx93 U37 Z2<|Jb3 R I2 (f161.gInt hx93)<|Jb 1 R<|Jg3 [2,2,2,1,2] 3 R<|Ob h λx98 hx98 h=>?_
 have f163:=(f130.mx (bL _) m133 R (R:13+2=15)).stp (S138.tr S150)
 refine Jr3 R C135 (rU (κ:=Mk K149) (Ji3 f151.rdc) (Ji3 f163.rdc) hx98) ?_
 rintro _ w164 ⟨k165,rfl,e166⟩
 obtain⟨K167,S168,m169⟩:=Ji e166 17 R
 refine Tv<|Jb 1 R<|Jq<|Je3 R<|Ob h λq10 h hK171=>Jo3 [1,3,6,13,14,15,16,17,18] (λE L w'=>∃κ',∃z10:(List Place)×Int,∃az aI,L=(12,.slice az z10.1.length aI)::(20,vi z10.2)::E/\Stp [7,19,20] K167 w164 κ' w'/\Oc (Ep.fz Place.rp) 88 κ' w' 7 az aI z10.1/\q10=yD z10) ?_ ?_
 revert h
 cases ht176:decide (x98<0)
 refine JF λh=>Jy R<|Js ?_
 cases h
 exact Jw1 _ ⟨K167,(s7.1,x98),ak,ah,R,Jj3,(f151.stp S168),R⟩<|KM R
 refine JT λh=>Jx R<|Jg3 [2,2,2] 1 R<|Jn3 R U80 R R<|Jb 1 R<|Jq<|Je3 R ?_
 revert h
 cases ht177:decide (256<=(s7.1.length:Int))
 refine JF λh=>Jy R<|Js<|Jp<|Jh3 [2,2,1,2,1,2,1,1,2] 2 R<|Jx3 (κ:=K167) (E:=E6) 19 R Y37 bG R λbp bm w188 K189 S190 f191=>Tv<|Jn 1 R<|Ob h λx111 hx111 h=>Jy3 (κ:=K189) (E:=E6) 19 [] R Y37 bG R f191 (Sl.srcP (bP _) (f163.stp<|S168.tr S190).rdc) bI hx111 R λaO aL w193 K194 S195 f196=>Tv<|Jf R (bK (parts:=[(0,.tmp 108),(1,.tmp 111)]) (cells:=[vi x93,.slice aO x111.length aL]) R R (by kernel_rfl)) ?_
 obtain⟨K197,S198,z199⟩:=fV K194 w193 19
 refine Jw3 (κ:=K197) (E:=(Ep.fz Place.rp)) 20 [] (parts:=[(0,.tmp 112)]) (cells:=[vi x93,.slice aO x111.length aL]) (xs:=([(⟨x93,x111⟩:Place)]:List Place)) R Y80 fk R ⟨[vi x93,.slice aO x111.length aL],[],Zl K197 w193 [],Zl K197 w193 [],R,Zl.sp (l1:=[]) (l2:=[]) R,Zl.sr (l1:=[]) (l2:=[]),(Place.mk_rel (x:=(⟨x93,x111⟩:Place))<|Sl.z1<|Sl.st z199 f196.rdc),R⟩ λbz bn w201 K202 S203 f204=>Tv<|Ob h λx114 hx114 h=>Jy3 (κ:=K202) (E:=(Ep.fz Place.rp)) 7 [20] R Y80 fk R (f151.stp<|T5 S168 S190 S195 S198 S203) f204.src (dE R) hx114 R λbk bf w206 K207 S208 f209=>Tv<|Jc 1 R ?_
 cases h
 exact Jw1 _ ⟨K207,(x114,((s7.1.length:Int):Int)),bk,bf,R,(T5 S190 S195 S198 S203 S208).wk R,f209,R⟩<|KM R
 refine JT λh=>Jx R<|Je [2,1,1,2,2] R<|Jf R (bK (parts:=[]) (cells:=[.slice none 0 0,.slice none 0 0,.slice none 0 0]) R R (by kernel_rfl))<|Jx3 (κ:=K167) (E:=(Ep.fz Place.rp)) 19 R Y80 fk R λbd aX w178 K179 S180 f181=>Tv<|Jv3 (κ:=K179) 3 (vc:=[.slice none 0 0,.slice none 0 0,.slice none 0 0]) R Z79 R (f8.stp<|S16.tr<|S31.tr<|S43.tr<|S57.tr<|S64.tr<|S81.tr<|S86.tr<|S90.tr<|S93.tr<|S108.tr<|S120.tr<|S123.tr<|S132.tr<|S138.tr<|S150.tr<|S168.tr S180) R λw183 S184 f185=>Tv<|Jb 2 R<|Ju<|Jw<|Jq2 ?_
 cases h
 have h:=hK171
 dsimp only[aft]at h
 refine Jw<|Ja1<|Jw<|Jw ?_
 cases h
 obtain rfl:=Option.some.inj hk154
 have h:=yL hK141
 refine Ja1<|Jq2<|Jw<|Ja1<|Jw<|Jw ?_
 cases h
 obtain rfl:=Option.some.inj hk115
 have h:=yL hK96
 refine Ja1<|Jq2<|Jw<|Ja2 (l:=[.cell 6 79,.tmp 7,.tmp 8]) V66 (bM R f185 I79 Z79 R<|Jp2 R<|Jp2 R R) R ?_
 cases h
 exact⟨(λb=>ren [(19,5)]<|K179 b),none,0,none,0,none,0,bd,aX,R,((hE.stp<|S3.tr<|S7.tr<|S16.tr<|S31.tr<|S43.tr<|S57.tr<|S64.tr<|S81.tr<|S86.tr<|S90.tr<|S93.tr<|S108.tr<|S120.tr<|S123.tr<|S132.tr<|S138.tr<|S150.tr<|S168.tr<|S180.tr S184).map (ren [(19,5)]) R R),Ow.nil,Ow.nil,Ow.nil,((f181.stp S184).map (ren [(19,5)]) R R)⟩
 rintro _ w172 ⟨K173,z10,az,aI,rfl,S174,f175,rfl⟩
 have h:=yI hK171
 refine Jp<|Jh3 [2,2,1,1,2] 2 R<|Jw3 (κ:=K173) (E:=E6) 19 [] (parts:=[(0,.tmp 116)]) (cells:=[vi z10.2]) (xs:=([z10.2]:List Int)) R Y37 bG R ⟨[vi z10.2],[],Zl K173 w172 [],Zl K173 w172 [],R,Zl.sp (l1:=[]) (l2:=[]) R,Zl.sr (l1:=[]) (l2:=[]),R,R⟩ λbs bB w211 K212 S213 f214=>Tv<|Ob h λx118 hx118 h=>Jy3 (κ:=K212) (E:=E6) 16 [] R Y37 bG R (f152.stp<|T3 S168 S174 S213) (Sl.srcP (bP _) f214.rdc) bI hx118 R λaZ bg w216 K217 S218 f219=>Tv<|Jc 1 R<|Jz<|Jp<|Jf3 R ?_
 cases h
 exact Jz1 λa ha=>⟨k,_,Ja3 _,⟨K217,(z10.1,x118,((IntKind.i64.wrap<|s7.2.2+1):Int)),az,aI,aZ,bg,R,(T5 S150 S168 S174 S213 S218).wk R,(f175.stp<|S213.tr S218),f219,hk154⟩,(ha.mm R)⟩
 rintro _ w143 ⟨K144,s9,aD,ax,aK,aN,rfl,S145,f146,f147,rfl⟩
 have h:=yI hK141
 refine Jp<|Jq<|Js1 (κ:=K144) [0,2,8,12] (some 13) [(0,2),(1,2),(3,2),(5,2),(2,0),(4,0),(6,0),(7,2),(8,0),(9,1),(10,1),(11,2),(12,2)] [(13,1)] (by kernel_rfl) (by kernel_rfl) λw222 S221=>Jd3 R U79 R Z75<|Jd3 R U75 R Z37<|Jd3 R U75 R Z37<|Jd3 R U88 R Z2 ?_
 have f223:=f113.stp (T6 S120 S123 S132 S138 S145 S221)
 refine Jg R (Jc2 I37 R R<|hvC (f223.ld 0 R R) R)<|Jg R (Jc2 I37 R R<|hvC ((f9.stp<|T16 S16 S31 S43 S57 S64 S81 S86 S90 S93 S108 S120 S123 S132 S138 S145 S221).ld 0 R R) R) ?_
 have f225:=f124.stp (T4 S132 S138 S145 S221)
 refine Jg R (Jc2 I2 R R<|hvC (f225.ld 0 R R) R)<|Ob h λx126 hx126 h=>Jc3 R f10 hx126 U37 Z2<|Jg R (Jc2 I2 R R<|hvC ((f10.stp<|T16 S16 S31 S43 S57 S64 S81 S86 S90 S93 S108 S120 S123 S132 S138 S145 S221).gInt hx126) R)<|Jw3 (κ:=K144) (E:=E6) 17 [] (parts:=[(0,.tmp 127)]) (cells:=[vi x126]) (xs:=([x126]:List Int)) R Y37 bG R ⟨[vi x126],[],Zl K144 w222 [],Zl K144 w222 [],R,Zl.sp (l1:=[]) (l2:=[]) R,Zl.sr (l1:=[]) (l2:=[]),R,R⟩ λbx br w227 K228 S229 f230=>⟨(S229.cl R),Ob h λx129 hx129 h=>Jy3 (κ:=K228) (E:=E6) 9 [] R Y37 bG R (f110.stp<|T7 S120 S123 S132 S138 S145 S221 S229) (Sl.srcP (bP _) f230.rdc) bI hx129 R λae ai w232 K233 S234 f235=>⟨((S229.tr S234).cl R),Jd3 R U79 R Z75<|Jd3 R U75 R Z37<|Jt1<|Ju3 (κ:=K233) 8 (off:=0) (vc:=[.slice ae x129.length ai]) (cs':=[.slice ae x129.length ai,.slice an s4.2.2.2.1.length al,.slice ac s4.2.2.2.2.length ab]) R Z37 R (f223.stp<|S229.tr S234) R λw237 S238 f239=>Tv<|Jd<|Jq<|Js1 (κ:=K233) [8] (some 9) [(0,2),(1,2),(3,2),(2,0),(4,1),(5,1),(6,1),(7,2),(8,2)] [(9,1)] (by kernel_rfl) (by kernel_rfl) λw241 S240=>Jd3 R U79 R Z75<|Jd3 R U75 R Z31<|Jn 1 R ?_⟩⟩
 have f242:=f239.stp S240
 refine Jg R (Jc2 I31 R R<|hvC (f242.ld 1 R R) R)<|Ob h λx136 hx136 h=>Jr3 R C136 (pt (κ:=Mk K233) (Ji3 (f147.stp<|T5 S221 S229 S234 S238 S240).rdc) hx136) ?_
 rintro _ w244 ⟨k245,aU,aR,rfl,e246,f247⟩
 obtain⟨K248,S249,m250⟩:=Ji e246 18 R
 refine⟨(S249.cl R),Jw3 (κ:=K248) (E:=(Ep.own E6 2)) 21 [20] (parts:=[(0,.tmp 136)]) (cells:=[.slice aU x136.length aR]) (xs:=([x136]:List (List Int))) R Y31 bQ R ⟨[.slice aU x136.length aR],[],Zl K248 w244 [20],Zl K248 w244 [],R,Zl.sp (l1:=[20]) (l2:=[]) R,Zl.sr (l1:=[20]) (l2:=[]),⟨_,_,R,(f247.mx (bL _) m250 R (R:18+2=20))⟩,R⟩ λbA bt w253 K254 S255 f256=>⟨((S249.tr S255).cl R),Ob h λx138 hx138 h=>Jy3 (κ:=K254) (E:=(Ep.own E6 2)) 10 [21] R Y31 bQ R (f111.stp<|T12 S120 S123 S132 S138 S145 S221 S229 S234 S238 S240 S249 S255) f256.src (dE R) hx138 R λaH aC w258 K259 S260 f261=>⟨((T3 S249 S255 S260).cl R),Jd3 R U79 R Z75<|Jd3 R U75 R Z31<|Jt1<|Ju3 (κ:=K259) 8 (off:=1) (vc:=[.slice aH x138.length aC]) (cs':=[.slice ae x129.length ai,.slice aH x138.length aC,.slice ac s4.2.2.2.2.length ab]) R Z31 R (f242.stp<|T3 S249 S255 S260) R λw263 S264 f265=>Tv<|Jd<|Js1 (κ:=K259) [8,12] (some 11) [(0,2),(2,2),(3,2),(5,2),(1,0),(4,0),(6,0),(7,1),(8,1),(9,1),(10,2)] [(11,1)] (by kernel_rfl) (by kernel_rfl) λw267 S266=>Jd3 R U79 R Z37<|Jn 1 R<|Jd3 R U88 R Z37<|Jd3 R U88 R Z2 ?_⟩⟩⟩
 have f268:=f265.stp S266
 refine Jg R (Jc2 I37 R R<|hvC (f268.ld 2 R R) R) ?_
 have f269:=f225.stp (T9 S229 S234 S238 S240 S249 S255 S260 S264 S266)
 have S001:=(T13 S132 S138 S145 S221 S229 S234 S238 S240 S249 S255 S260 S264 S266)
 refine Jg R (Jc2 I37 R R<|hvC (f269.ld 1 R R) R)<|Jg R (Jc2 I2 R R<|hvC (f269.ld 0 R R) R)<|Ob h λx148 hx148 h=>Jr3 R C137 (rD (κ:=Mk K259) (Ji3<|f125.stp S001) (Ji3<|f126.stp S001) hx148) ?_
 rintro _ w272 ⟨k273,rfl,e274⟩
 obtain⟨K275,S276,m277⟩:=Ji e274 22 R
 refine⟨(S276.cl R),Jw3 (κ:=K275) (E:=E6) 24 [] (parts:=[(0,.tmp 148)]) (cells:=[vi x148]) (xs:=([x148]:List Int)) R Y37 bG R ⟨[vi x148],[],Zl K275 w272 [],Zl K275 w272 [],R,Zl.sp (l1:=[]) (l2:=[]) R,Zl.sr (l1:=[]) (l2:=[]),R,R⟩ λbo bw w279 K280 S281 f282=>⟨((S276.tr S281).cl R),Ob h λx150 hx150 h=>Jy3 (κ:=K280) (E:=E6) 11 [] R Y37 bG R (f112.stp<|S120.tr<|S123.tr<|S132.tr<|S138.tr<|S145.tr<|S221.tr<|S229.tr<|S234.tr<|S238.tr<|S240.tr<|S249.tr<|S255.tr<|S260.tr<|S264.tr<|S266.tr<|S276.tr S281) (Sl.srcP (bP _) f282.rdc) bI hx150 R λaM aJ w284 K285 S286 f287=>⟨((T3 S276 S281 S286).cl R),Jd3 R U79 R Z37<|Jt1<|Ju3 (κ:=K285) 8 (off:=2) (vc:=[.slice aM x150.length aJ]) (cs':=[.slice ae x129.length ai,.slice aH x138.length aC,.slice aM x150.length aJ]) R Z37 R (f268.stp<|T3 S276 S281 S286) R λw289 S290 f291=>Tv<|Jo<|Jz<|Jp<|Jf3 R ?_⟩⟩⟩
 cases h
 exact Jz1 λa ha=>⟨k,_,Ja3 _,⟨K285,(s9.1,((IntKind.i64.wrap<|s4.2.1+1):Int),x129,x138,x150),aD,ax,ae,ai,aH,aC,aM,aJ,R,(S108.tr<|S120.tr<|S123.tr<|S132.tr<|S138.tr<|S145.tr<|S221.tr<|S229.tr<|S234.tr<|S238.tr<|S240.tr<|S249.tr<|S255.tr<|S260.tr<|S264.tr<|S266.tr<|S276.tr<|S281.tr<|S286.tr S290).wk R,(f146.stp<|T14 S221 S229 S234 S238 S240 S249 S255 S260 S264 S266 S276 S281 S286 S290),(f235.stp<|T11 S238 S240 S249 S255 S260 S264 S266 S276 S281 S286 S290),(f261.stp<|T6 S264 S266 S276 S281 S286 S290),(f287.stp S290),f291,hk115⟩,(ha.mm R)⟩
 rintro _ w98 ⟨K99,s6,aB,aE,aj,aq,ar,am,au,ao,rfl,S100,f101,f102,f103,f104,f105,rfl⟩
 have h:=yI hK96
 refine Jp<|Je [1,2,1,2,2] R<|Jb4 tv R (Jc4 (haE f105.cells) I79 Z79 R)<|Jn 1 R<|Jv3 (κ:=K99) 3 (vc:=[.slice aj s6.2.2.1.length aq,.slice ar s6.2.2.2.1.length am,.slice au s6.2.2.2.2.length ao]) R Z79 R (f8.stp<|T10 S16 S31 S43 S57 S64 S81 S86 S90 S93 S100) R λw297 S298 f299=>Tv<|Jb 2 R<|Ju<|Ja2 (l:=[.cell 6 79,.tmp 7,.tmp 8]) V66 (bM R f299 I79 Z79 R<|Jp2 R<|Jp2 R R) R ?_
 cases h
 exact⟨(λb=>ren [(9,2),(10,3),(11,4),(7,5)]<|K99 b),aj,aq,ar,am,au,ao,aB,aE,R,((hE.stp<|T13 S3 S7 S16 S31 S43 S57 S64 S81 S86 S90 S93 S100 S298).map (ren [(9,2),(10,3),(11,4),(7,5)]) R R),((f102.stp S298).map (ren [(9,2),(10,3),(11,4),(7,5)]) R R),((f103.stp S298).map (ren [(9,2),(10,3),(11,4),(7,5)]) R R),((f104.stp S298).map (ren [(9,2),(10,3),(11,4),(7,5)]) R R),((f101.stp S298).map (ren [(9,2),(10,3),(11,4),(7,5)]) R R)⟩
 refine JT λh=>Jx R<|Je [2,1,1,2,2] R<|Jf R (bK (parts:=[]) (cells:=[.slice none 0 0,.slice none 0 0,.slice none 0 0]) R R (by kernel_rfl))<|Jx3 (κ:=K42) (E:=(Ep.fz Place.rp)) 6 R Y80 fk R λba bh w45 K46 S47 f48=>Tv<|Jv3 (κ:=K46) 3 (vc:=[.slice none 0 0,.slice none 0 0,.slice none 0 0]) R Z79 R (f8.stp<|T4 S16 S31 S43 S47) R λw50 S51 f52=>Tv<|Jb 2 R<|Ju<|Jw<|Ja2 (l:=[.cell 6 79,.tmp 7,.tmp 8]) V66 (bM R f52 I79 Z79 R<|Jp2 R<|Jp2 R R) R ?_
 cases h
 exact⟨(λb=>ren [(6,5)]<|K46 b),none,0,none,0,none,0,ba,bh,R,((hE.stp<|T7 S3 S7 S16 S31 S43 S47 S51).map (ren [(6,5)]) R R),Ow.nil,Ow.nil,Ow.nil,((f48.stp S51).map (ren [(6,5)]) R R)⟩
theorem ua {ax au ar aw av ay}{p0:Parity}{a1 u1}{p1:(List Int)}(g0_0_0:Rd (Rp.int .i64) κ w 0 ax au p0.Arena.Owner) (g0_0_1:Rd (Rp.sl (Rp.int .i64)) κ w 0 ar aw p0.Arena.Next) (g0_1:Rd (Rp.int .i64) κ w 0 av ay p0.Prio) (g1:Rd (Rp.int .i64) κ w 0 a1 u1 p1){r:(List Int)×(List Int)}(h:nJ p0 p1=some r):Ret Tryz.prog 190 [.agg #[.slice ax p0.Arena.Owner.length au,.slice ar p0.Arena.Next.length aw,.slice av p0.Prio.length ay],.slice a1 p1.length u1] w (λv w'=>∃(κ':Col) (ra0:Option Addr) (ru0:Nat) (ra1:Option Addr) (ru1:Nat),v= .tuple #[.slice ra0 r.1.length ru0,.slice ra1 r.2.length ru1]/\Ent κ w κ' w'/\Oc E6 2 κ' w' 2 ra0 ru0 r.1/\Oc E6 2 κ' w' 3 ra1 ru1 r.2):=by
 unfold nJ at h
 refine Jk3 κ F190 R N190 R λhE=>Je [1,2,2] R<|Js3 (κ:=κ) 2 R λb2 w1 K2 S3 f4=>Tv<|Jb 2 R<|Je [1,2] R<|Jx3 (κ:=K2) (E:=E6) 3 R Y37 bG R λaq ao w5 K6 S7 f8=>Tv<|Jb 1 R<|Je [1,2] R<|Jx3 (κ:=K6) (E:=E6) 4 R Y37 bG R λap an w9 K10 S11 f12=>Tv<|Jb 1 R<|Jq<|Je [1,1,2,2,2,2,1,2,1,2,2] R ?_
 have f13:=f4.stp (S7.tr S11)
 refine Jb4 tv R (Jc4 (haE f13.cells) I79 Z79 R)<|Ob h λx16 hx16 h=>?_
 have f14:=g0_0_0.stp (T3 S3 S7 S11)
 have f15:=g0_0_1.stp (T3 S3 S7 S11)
 have f16:=g0_1.stp (T3 S3 S7 S11)
 refine Jr3 R C138 (qA (κ:=Mk K10) (p0:=p0) (Ji3 f14) (Ji3 f15) (Ji3 f16) hx16) ?_
 rintro _ w17 ⟨k18,rfl,e19⟩
 obtain⟨K20,S21,m22⟩:=Ji e19 5 R
 refine Tv<|Jn 2 R<|Ob h λp25 h hK24=>Jq3 [1,2,6,7] (λE L w'=>L=(25,.bool p25)::E/\∃κ',Stp [] K20 w17 κ' w') [(4,2),(5,2),(6,1),(7,2),(8,1),(9,2),(10,2)] [] tv ?_ ?_
 revert h
 cases ht25:(!x16)
 refine JF λh=>Jn 1 R<|Jd3 R U79 R Z37<|Jb3 R I37 ((f13.stp S21).ld 2 R R)<|Jn3 R U37 R R<|Ob h λx23 hx23 h=>Jr3 R C80 (ni (κ:=Mk K20) (Ji3<|g1.stp<|T4 S3 S7 S11 S21) hx23) ?_
 rintro _ w28 ⟨k29,rfl,e30⟩
 obtain⟨K31,S32,m33⟩:=Ji e30 7 R
 refine Tv<|Jn 2 R ?_
 cases h
 exact Jv1 _ tv ⟨R,_,S32.wk R⟩<|KM R
 refine JT λh=>Jn 2 R<|Jz3 R<|Jn 1 R<|Jz3 R<|Jn 2 R ?_
 cases h
 exact Jv1 _ tv ⟨R,_,Jj3⟩<|KM R
 rintro _ w35 _ ⟨rfl,K36,S37⟩
 have h:=hK24
 refine Jd ?_
 revert h
 cases ht38:p25
 refine JF λh=>Jy R<|Js<|Jp<|Je [1,1,1,1] R ?_
 have f42:=f13.stp (S21.tr S37)
 refine Jb4 tv R (Jc4 (haE f42.cells) I79 Z79 R)<|Ob h λx29 hx29 h=>Jr3 R C201 (uP (κ:=λb=>mp [] 1<|K36 b) (p0:=p0) (Jl2 (f14.stp<|S21.tr S37) (mp [] 1) R R) (Jl2 (f15.stp<|S21.tr S37) (mp [] 1) R R) (Jl2 (f16.stp<|S21.tr S37) (mp [] 1) R R) hx29) ?_
 rintro _ w46 ⟨k47,aB,aA,aG,az,aC,aM,aK,aJ,aL,aH,rfl,e48,f49,f50,f51,f52,f53⟩
 obtain⟨K54,S55,m56,z57⟩:=Jj e48 7 R
 refine Tv<|?_
 have f58:=f49.mx z57
 have f59:=f50.mx z57
 have f60:=f51.mx z57
 have f61:=f52.mx (cR (bL _) _) m56 R (R:7+5=12)
 have f62:=f53.mx (bL _) m56 R (R:7+6=13)
 refine Jt3 (κ:=K54) 14 R X210 R λb8 w63 K64 S65 f66=>Tv<|Jv3 (κ:=K64) 14 (vc:=[.slice aB x29.owner.length aA,.slice aG x29.prio.length az,.slice aC x29.next.length aM,.slice aK x29.prev.length aJ,.slice aL x29.pick.length aH]) R Z210 R f66 R λw67 S68 f69=>Tv<|Jd<|Je [2,1,2,2,1,2] R<|Jd3 R U79 R Z37<|Jb3 R I37 ((f42.stp<|T3 S55 S65 S68).ld 2 R R)<|Jn3 R U37 R R<|Jn 1 R<|Ob h λx34 hx34 h=>?_
 have f71:=g1.stp (T8 S3 S7 S11 S21 S37 S55 S65 S68)
 refine Jr3 R C248 (tk (κ:=Mk K64) (Ji3 f71) hx34) ?_
 rintro _ w72 ⟨k73,aU,aT,rfl,e74,f75⟩
 obtain⟨K76,S77,m78⟩:=Ji e74 15 R
 refine Tv<|?_
 have f80:=f75.mx dU m78 R (R:15+2=17)
 refine Jb 1 R<|Jq<|Je3 R ?_
 have hN81:(p1.length:Int)<=9223372036854775807:=f71.len_le
 refine Ob h λq2 hq83 hK82=>?_
 clear h
 refine Jo3 [1,6,7,8,9] (λE L w'=>∃κ',L=E/\Stp [] K76 w72 κ' w'/\q2=yD ()) ?_ ?_
 refine Jv<|Jp3 [1,6,7,8,9] (λk E L w'=>∃κ' v10,L=(10,vi v10)::E/\Stp [] K76 w72 κ' w'/\0<=v10/\yG ((p1.length:Int)-v10)=k/\cntM (jF p1 x29 x34) k v10 ()=some q2) ⟨_,_,⟨K76,0,R,Jj3,(by decide),(by simp),hq83⟩,(KM R)⟩ ?_
 rintro k _ w87 ⟨K88,v10,rfl,S89,hj81,hJ81,h⟩
 rcases k with _ | k
 have hk90:=h;obtain⟨o81,h⟩:=bT (yD (yE ()):((List Int)×(List Int))⊕((Unit)⊕(Unit)))
 have hc81:decide (v10<(p1.length:Int))=false:=Jo2 (by omega)
 refine Jq<|Jg3 [2,2,2,2] 2 R<|Jn3 R U37 R R<|Jb 1 R<|Jw2 R hc81<|Jc1<|Jt<|Jt ?_
 cases h
 have h:=hk90
 refine Jb1 ?_
 cases h
 exact Jw1 _ ⟨K88,R,S89.wk R,R⟩<|KM R
 obtain⟨o81,h,hk90⟩:=BI h;unfold jF at h
 have hc81:decide (v10<(p1.length:Int))=true:=Jn2 (by omega)
 have S001:=(T4 S65 S68 S77 S89)
 refine Jq<|Jg3 [2,2,2,2] 2 R<|Jn3 R U37 R R<|Jb 1 R<|Jv2 R hc81<|Js<|Jp<|Jq<|Jv<|Jq<|Js1 (κ:=K88) [0,14] none [(1,2),(2,2),(3,2),(4,2),(0,0),(5,0),(6,1),(7,2)] [] (by kernel_rfl) (by kernel_rfl) λw92 S91=>Jn 3 R<|Ob h λx45 hx45 h=>Jc3 R f71 hx45 U37 Z2<|Jg R (Jc4 (haC (f69.stp<|T3 S77 S89 S91).cells R) I210 Z210 R)<|Jg R (Jc2 I2 R R<|hvC ((f71.stp<|T3 S77 S89 S91).gInt hx45) R)<|Ob h λx47 hx47 h=>Jr3 R C249 (nc (κ:=Mk K88) (p0:=x29) (Ji3<|f58.stp<|S001.tr S91) (Ji3<|f59.stp<|S001.tr S91) (Ji3<|f60.stp<|S001.tr S91) (Ji3 (f61.stp<|S001.tr S91).rdc) (Ji3 (f62.stp<|S001.tr S91).rdc) (Ji3 (f80.stp<|S89.tr S91).rdc) hx47) ?_
 rintro _ w101 ⟨k102,rfl,e103⟩
 obtain⟨K104,S105,m106⟩:=Ji e103 18 R
 refine⟨(S105.cl R),Jn 1 R<|Jt1<|Jd ?_⟩
 revert h
 cases ht108:(x47==0)
 refine JF λh=>Jy R<|Js<|Jz<|Jp<|Jf3 R ?_
 have hw81:yC .i64 (v10+1)=v10+1:=wr1 hj81 (Jm2 hc81) hN81
 rw[hw81]
 have hc81:=Jm2 hc81
 cases h
 exact Jz1 λa ha=>⟨k,_,Ja3 _,⟨K104,v10+1,R,(T3 S89 S91 S105).wk R,by omega,by omega,hk90⟩,(ha.mm R)⟩
 refine JT λh=>Jx R<|Je3 R<|Ju<|Ja1<|Jw<|Jw ?_
 cases h
 obtain rfl:=Option.some.inj hk90
 have h:=yL hK82
 refine Ja1<|Jq2<|Jw<|Ja2 (l:=[.tmp 4,.tmp 5]) V190 (Jp2 R<|Jp2 R R) R ?_
 cases h
 exact⟨(λb=>ren [(3,2),(4,3)]<|K104 b),aq,ao,ap,an,R,((hE.stp<|T12 S3 S7 S11 S21 S37 S55 S65 S68 S77 S89 S91 S105).map (ren [(3,2),(4,3)]) R R),((f8.stp<|T10 S11 S21 S37 S55 S65 S68 S77 S89 S91 S105).map (ren [(3,2),(4,3)]) R R),((f12.stp<|T9 S21 S37 S55 S65 S68 S77 S89 S91 S105).map (ren [(3,2),(4,3)]) R R)⟩
 rintro _ w84 ⟨K85,rfl,S86,rfl⟩
 have h:=yI hK82
 have S002:=(T4 S65 S68 S77 S86)
 refine Jp<|Je [1,2,1,2] R<|Jb4 tv R (Jc4 (haE (f69.stp<|S77.tr S86).cells) I210 Z210 R)<|Jn 1 R<|Ob h λx53 hx53 h=>Jr3 R C250 (tW _ (κ:=Mk K85) (p0:=x29) (Ji3<|f58.stp S002) (Ji3<|f59.stp S002) (Ji3<|f60.stp S002) (Ji3 (f61.stp S002).rdc) (Ji3 (f62.stp S002).rdc) (Ji3 (f80.stp S86).rdc) hx53) ?_
 rintro _ w119 ⟨k120,aO,aN,rfl,e121,f122⟩
 obtain⟨K123,S124,m125⟩:=Ji e121 18 R
 refine Tv<|?_
 have f127:=f122.mx dU m125 R (R:18+2=20)
 refine Jb 1 R<|Jq<|Je3 R ?_
 have hN128:(p1.length:Int)<=9223372036854775807:=f71.len_le
 refine Ob h λq5 hq130 hK129=>?_
 clear h
 refine Jx1 (λL w'=>∃κ',∃s6:(List Int)×(List Int),∃am ak aj ah,L=[(6,.slice am s6.1.length ak),(7,.slice aj s6.2.length ah)]/\Stp [3,4] K123 w119 κ' w'/\Oc E6 2 κ' w' 3 am ak s6.1/\Oc E6 2 κ' w' 4 aj ah s6.2/\q5=yD s6) ?_ ?_
 refine Jv<|Jp3 [1,11] (λk E L w'=>∃κ' v12,∃s4:(List Int)×(List Int),∃ac ab aa ad,L=(6,.slice ac s4.1.length ab)::(7,.slice aa s4.2.length ad)::(12,vi v12)::E/\Stp [3,4] K123 w119 κ' w'/\Oc E6 2 κ' w' 3 ac ab s4.1/\Oc E6 2 κ' w' 4 aa ad s4.2/\0<=v12/\yG ((p1.length:Int)-v12)=k/\cntM (jZ p1 x53) k v12 s4=some q5) ⟨_,_,⟨K123,0,((([]:List Int):(List Int)),(([]:List Int):(List Int))),aq,ao,ap,an,R,Jj3,(f8.stp<|T9 S11 S21 S37 S55 S65 S68 S77 S86 S124),(f12.stp<|T8 S21 S37 S55 S65 S68 S77 S86 S124),(by decide),(by simp),hq130⟩,(KM R)⟩ ?_
 rintro k _ w136 ⟨K137,v12,s4,ac,ab,aa,ad,rfl,S138,f139,f140,hj128,hJ128,h⟩
 rcases k with _ | k
 have hk143:=h;obtain⟨o128,h⟩:=bT (yD (yE s4):((List Int)×(List Int))⊕(((List Int)×(List Int))⊕((List Int)×(List Int))))
 have hc128:decide (v12<(p1.length:Int))=false:=Jo2 (by omega)
 refine Jq<|Jg3 [2,2,2,2] 2 R<|Jn3 R U37 R R<|Jb 1 R<|Jw2 R hc128<|Jc1<|Jt<|Jt ?_
 cases h
 have h:=hk143
 refine Jb1 ?_
 cases h
 exact Jw1 _ ⟨K137,(s4.1,s4.2),ac,ab,aa,ad,R,S138.wk R,f139,f140,R⟩<|KM R
 obtain⟨o128,h,hk143⟩:=BI h;unfold jZ at h
 have hc128:decide (v12<(p1.length:Int))=true:=Jn2 (by omega)
 refine Jq<|Jg3 [2,2,2,2] 2 R<|Jn3 R U37 R R<|Jb 1 R<|Jv2 R hc128<|Js<|Jp<|Jq<|Jv<|Jg3 [2,2,2,2,1,2,1] 3 R<|Ob h λx63 hx63 h=>Jc3 R f71 hx63 U37 Z2 ?_
 have f144:=f71.stp (T4 S77 S86 S124 S138)
 refine Jb3 R I2 (f144.gInt hx63)<|Ob h λx65 hx65 h=>Jc3 R f127.rdc hx65 U178 Z4<|Jb3 R I4 ((f127.stp S138).rdc.gBool hx65)<|Jd<|Ob h λq7 h hK146=>Jo3 [1,11,12] (λE L w'=>∃κ' ai ae al af,L=(6,.slice ai q7.1.length ae)::(7,.slice al q7.2.length af)::E/\Stp [3,4] K137 w136 κ' w'/\Oc E6 2 κ' w' 3 ai ae q7.1/\Oc E6 2 κ' w' 4 al af q7.2) ?_ ?_
 revert h
 cases ht152:x65
 refine JF λh=>Jy R<|Jh3 [2,2,2,2,1,1,1,2] 3 R<|Ob h λx77 hx77 h=>Jc3 R f144 hx77 U37 Z2<|Jb3 R I2 (f144.gInt hx77)<|Jw3 (κ:=K137) (E:=E6) 21 [] (parts:=[(0,.tmp 78)]) (cells:=[vi x77]) (xs:=([x77]:List Int)) R Y37 bG R ⟨[vi x77],[],Zl K137 w136 [],Zl K137 w136 [],R,Zl.sp (l1:=[]) (l2:=[]) R,Zl.sr (l1:=[]) (l2:=[]),R,R⟩ λaS aQ w163 K164 S165 f166=>Tv<|Ob h λx80 hx80 h=>Jy3 (κ:=K164) (E:=E6) 4 [] R Y37 bG R (f140.stp S165) (Sl.srcP (bP _) f166.rdc) bI hx80 R λaE aD w168 K169 S170 f171=>Tv<|Jc 1 R ?_
 cases h
 exact Jw1 _ ⟨K169,ac,ab,aE,aD,R,(S165.tr S170).wk R,(f139.stp<|S165.tr S170),f171⟩<|KM R
 refine JT λh=>Jx R<|Jh3 [2,2,2,2,1,1,1,2] 3 R<|Ob h λx70 hx70 h=>Jc3 R f144 hx70 U37 Z2<|Jb3 R I2 (f144.gInt hx70)<|Jw3 (κ:=K137) (E:=E6) 21 [] (parts:=[(0,.tmp 71)]) (cells:=[vi x70]) (xs:=([x70]:List Int)) R Y37 bG R ⟨[vi x70],[],Zl K137 w136 [],Zl K137 w136 [],R,Zl.sp (l1:=[]) (l2:=[]) R,Zl.sr (l1:=[]) (l2:=[]),R,R⟩ λaR aP w153 K154 S155 f156=>Tv<|Ob h λx73 hx73 h=>Jy3 (κ:=K154) (E:=E6) 3 [] R Y37 bG R (f139.stp S155) (Sl.srcP (bP _) f156.rdc) bI hx73 R λaF aI w158 K159 S160 f161=>Tv<|Jc 1 R ?_
 cases h
 exact Jw1 _ ⟨K159,aF,aI,aa,ad,R,(S155.tr S160).wk R,f161,(f140.stp<|S155.tr S160)⟩<|KM R
 rintro _ w147 ⟨K148,ai,ae,al,af,rfl,S149,f150,f151⟩
 have h:=hK146
 refine Jz<|Jp<|Jf3 R ?_
 have hw128:yC .i64 (v12+1)=v12+1:=wr1 hj128 (Jm2 hc128) hN128
 rw[hw128]
 have hc128:=Jm2 hc128
 cases h
 exact Jz1 λa ha=>⟨k,_,Ja3 _,⟨K148,v12+1,(q7.1,q7.2),ai,ae,al,af,R,(S138.tr S149).wk R,f150,f151,by omega,by omega,hk143⟩,(ha.mm R)⟩
 rintro _ w131 ⟨K132,s6,am,ak,aj,ah,rfl,S133,f134,f135,rfl⟩
 have h:=yI hK129
 refine Jp<|Je3 R<|Ju<|Ja2 (l:=[.tmp 4,.tmp 5]) V190 (Jp2 R<|Jp2 R R) R ?_
 cases h
 exact⟨(λb=>ren [(3,2),(4,3)]<|K132 b),am,ak,aj,ah,R,((hE.stp<|T12 S3 S7 S11 S21 S37 S55 S65 S68 S77 S86 S124 S133).map (ren [(3,2),(4,3)]) R R),(f134.map (ren [(3,2),(4,3)]) R R),(f135.map (ren [(3,2),(4,3)]) R R)⟩
 refine JT λh=>Jx R<|Je3 R<|Ju<|Jw<|Ja2 (l:=[.tmp 4,.tmp 5]) V190 (Jp2 R<|Jp2 R R) R ?_
 cases h
 exact⟨(λb=>ren [(3,2),(4,3)]<|K36 b),aq,ao,ap,an,R,((hE.stp<|T5 S3 S7 S11 S21 S37).map (ren [(3,2),(4,3)]) R R),((f8.stp<|T3 S11 S21 S37).map (ren [(3,2),(4,3)]) R R),((f12.stp<|S21.tr S37).map (ren [(3,2),(4,3)]) R R)⟩
theorem oE {p0:Sig}{a1 u1}{p1:(List Clause)}{ad ab ac aa}{p2:Word}(g1:Rd Clause.rp κ w 0 a1 u1 p1) (g2_0:Rd (Rp.int .i64) κ w 0 ad ab p2.Stem) (g2_1:Rd (Rp.int .i64) κ w 0 ac aa p2.Loop){r:Int}(h:gb p0 p1 p2=some r):Ret Tryz.prog 28 [.agg #[vi p0.In,vi p0.Out],.slice a1 p1.length u1,.agg #[.slice ad p2.Stem.length ab,.slice ac p2.Loop.length aa]] w (Pvi κ w r):=by
 unfold gb at h
 refine Jk3 κ F28 R N28 R λhE=>Je [1,1,2] R<|Js3 (κ:=κ) 2 R λb3 w1 K2 S3 f4=>Tv<|Js3 (κ:=K2) 3 R λb5 w5 K6 S7 f8=>Tv<|Jb 1 R<|Jq<|Je [1,2,1,2,2,1,1,1,2,2] R ?_
 have f9:=f4.stp S7
 refine Jb4 tv R (Jc4 (haE f9.cells) I28 Z28 R)<|Jn 1 R<|Ob h λx10 hx10 h=>?_
 have f10:=g1.stp (S3.tr S7)
 refine Jr3 R C75 (lZ (κ:=Mk K6) (p0:=p0) (Ji3 f10) hx10) ?_
 rintro _ w11 ⟨k12,rfl,e13⟩
 obtain⟨K14,S15,m16⟩:=Ji e13 4 R
 refine Tv<|Jn 2 R<|Ob h λp17 h hK18=>Jq3 [1,3,5] (λE L w'=>L=(17,.bool p17)::E/\∃κ',Stp [] K14 w11 κ' w') [(5,1),(6,1),(7,1),(8,2),(9,2)] [] tv ?_ ?_
 revert h
 cases ht19:(!x10)
 refine JF λh=>Jb4 tv R (Jc4 (haE (f9.stp S15).cells) I28 Z28 R)<|Jb4 tv R (Jc4 (haE (f8.stp S15).cells) I39 Z39 R)<|Ob h λx15 hx15 h=>Jr3 R C76 (oG (κ:=Mk K14) (p0:=p0) (p1:=p2) (Ji3<|g2_0.stp<|T3 S3 S7 S15) (Ji3<|g2_1.stp<|T3 S3 S7 S15) hx15) ?_
 rintro _ w24 ⟨k25,rfl,e26⟩
 obtain⟨K27,S28,m29⟩:=Ji e26 6 R
 refine Tv<|Jn 2 R ?_
 cases h
 exact Jv1 _ tv ⟨R,_,S28.wk R⟩<|KM R
 refine JT λh=>Jz3 R<|Jz3 R<|Jz3 R<|Jn 2 R ?_
 cases h
 exact Jv1 _ tv ⟨R,_,Jj3⟩<|KM R
 rintro _ w31 _ ⟨rfl,K32,S33⟩
 have h:=hK18
 refine Jd ?_
 revert h
 cases ht34:p17
 refine JF λh=>Jy R<|Js<|Jp<|Jq<|Je3 R ?_
 have hN36:(p1.length:Int)<=9223372036854775807:=f10.len_le
 refine Ob h λq2 hq38 hK37=>?_
 clear h
 refine Jx1 (λL w'=>∃κ',L=[]/\Stp [] K32 w31 κ' w'/\q2=yD ()) ?_ ?_
 refine Jv<|Jp3 [1,3,5] (λk E L w'=>∃κ' v7,L=(7,vi v7)::E/\Stp [] K32 w31 κ' w'/\0<=v7/\yG ((p1.length:Int)-v7)=k/\cntM (ej p0 p1 p2) k v7 ()=some q2) ⟨_,_,⟨K32,0,R,Jj3,(by decide),(by simp),hq38⟩,(KM R)⟩ ?_
 rintro k _ w42 ⟨K43,v7,rfl,S44,hj36,hJ36,h⟩
 rcases k with _ | k
 have hk45:=h;obtain⟨o36,h⟩:=bT (yD (yE ()):Int⊕((Unit)⊕(Unit)))
 have hc36:decide (v7<(p1.length:Int))=false:=Jo2 (by omega)
 refine Jq<|Jg3 [2,2,2,2] 2 R<|Jn3 R U29 R R<|Jb 1 R<|Jw2 R hc36<|Jc1<|Jt<|Jt ?_
 cases h
 have h:=hk45
 refine Jb1 ?_
 cases h
 exact Jw1 _ ⟨K43,R,S44.wk R,R⟩ KN
 obtain⟨o36,h,hk45⟩:=BI h;unfold ej at h
 have hc36:decide (v7<(p1.length:Int))=true:=Jn2 (by omega)
 refine Jq<|Jg3 [2,2,2,2] 2 R<|Jn3 R U29 R R<|Jb 1 R<|Jv2 R hc36<|Js<|Jp<|Jq<|Jv<|Jq<|Js1 (κ:=K43) [0,2,3] none [(1,2),(2,2),(3,2),(0,0),(4,0),(5,0),(6,1),(7,2)] [] (by kernel_rfl) (by kernel_rfl) λw47 S46=>Jn 2 R<|Ob h λx27 hx27 h=>Jc3 R f10 hx27 U29 Z67<|Jg R (Jc4 (haC (f9.stp<|T4 S15 S33 S44 S46).cells R) I28 Z28 R) ?_
 obtain⟨cse50,hre50,hle50⟩:=((f10.stp (T4 S15 S33 S44 S46))).gSt hx27
 obtain⟨ae50_0,ue50_0,ae50_1,ue50_1,rfl,fe50_0,fe50_1⟩:=Clause.un hre50
 have S001:=(T6 S3 S7 S15 S33 S44 S46)
 refine Jg R (Jc4 (haC hle50 R) I67 Z67 R)<|Jg R (Jc4 (haC (f8.stp<|T4 S15 S33 S44 S46).cells R) I39 Z39 R)<|Ob h λx30 hx30 h=>Jr3 R C77 (re (κ:=Mk K43) (p0:=p0) (p1:=x27) (p2:=p2) (Ji3 fe50_0) (Ji3 fe50_1) (Ji3<|g2_0.stp S001) (Ji3<|g2_1.stp S001) hx30) ?_
 rintro _ w54 ⟨k55,rfl,e56⟩
 obtain⟨K57,S58,m59⟩:=Ji e56 6 R
 refine⟨(S58.cl R),Jn 1 R<|Jt1<|Jd ?_⟩
 revert h
 cases ht61:(!x30)
 refine JF λh=>Jy R<|Js<|Jz<|Jp<|Jf3 R ?_
 have hw36:yC .i64 (v7+1)=v7+1:=wr1 hj36 (Jm2 hc36) hN36
 rw[hw36]
 have hc36:=Jm2 hc36
 cases h
 exact Jz1 λa ha=>⟨k,_,Ja3 _,⟨K57,v7+1,R,(T3 S44 S46 S58).wk R,by omega,by omega,hk45⟩,(ha.mm R)⟩
 refine JT λh=>Jx R<|Je3 R<|Ju<|Ja1<|Jw<|Jw ?_
 cases h
 obtain rfl:=Option.some.inj hk45
 have h:=yL hK37
 refine Ja1<|Jq2<|Jw<|Ja2 (l:=[.tmp 6]) V28 (Jp2 R R) R ?_
 cases h
 exact⟨K57,R,(hE.stp<|T7 S3 S7 S15 S33 S44 S46 S58)⟩
 rintro _ w39 ⟨K40,rfl,S41,rfl⟩
 have h:=yI hK37
 refine Jp<|Je3 R<|Ju<|Ja2 (l:=[.tmp 6]) V28 (Jp2 R R) R ?_
 cases h
 exact⟨K40,R,(hE.stp<|T5 S3 S7 S15 S33 S41)⟩
 refine JT λh=>Jx R<|Je3 R<|Ju<|Jw<|Ja2 (l:=[.tmp 6]) V28 (Jp2 R R) R ?_
 cases h
 exact⟨K32,R,(hE.stp<|T4 S3 S7 S15 S33)⟩
end Go.Proofs.YtleekpaohfpooaaGreat
