/- The walks, part 12. By program. -/
import Derived.Test.YtpcjbkgbnoocaaaGreatFns11MO
set_option linter.unusedVariables false
set_option linter.unusedSimpArgs false
open Go.IntKind renaming wrap → t0
open Sum renaming inr → xe
open Int renaming toNat → xh
namespace Go.Proofs.YtpcjbkgbnoocaaaGreat
open Go Go.Wk Go.Proofs
set_option maxRecDepth 100000
set_option maxHeartbeats 1000000
variable {w:World}{κ:Col}
theorem jU {p0:Sig}{af ae ah aa}{p1:Det}{ad ab ac ai}{p2:Det}(g1_0:Rd (Rp.sl (Rp.int .i64)) κ w 0 af ae p1.Next) (g1_1:Rd Pair.rp κ w 0 ah aa p1.Pairs) (g2_0:Rd (Rp.sl (Rp.int .i64)) κ w 0 ad ab p2.Next) (g2_1:Rd Pair.rp κ w 0 ac ai p2.Pairs){r:Det×Bool}(h:ja p0 p1 p2=some r):Ret Tryz.prog 115 [.agg #[vi p0.In,vi p0.Out],.agg #[.slice af p1.Next.length ae,.slice ah p1.Pairs.length aa],.agg #[.slice ad p2.Next.length ab,.slice ac p2.Pairs.length ai]] w (λv w'=>∃(κ':Col) (ra0:Option Addr) (ru0:Nat) (ra1:Option Addr) (ru1:Nat),v= .tuple #[.agg #[.slice ra0 r.1.Next.length ru0,.slice ra1 r.1.Pairs.length ru1],.bool r.2]/\Ent κ w κ' w'/\Oc (Ep.own E6 2) 29 κ' w' 2 ra0 ru0 r.1.Next/\Oc Pair.ep154 154 κ' w' 3 ra1 ru1 r.1.Pairs):=by
 unfold ja at h
 refine Jk3 κ F115 R N115 R λhE=>Je [1,1,1,1,2] R<|Jf1 (κ:=κ) 2 R R R R R R R λb3 w1 K2 S3 f4=>Tv<|Jf1 (κ:=K2) 3 R R R R R R R λb4 w5 K6 S7 f8=>Tv<|Jf1 (κ:=K6) 4 R R R R R R R λb5 w9 K10 S11 f12=>Tv<|Jg1 (κ:=K10) 5 R R R R R X100 R λb6 w13 K14 S15 f16=>Tv<|Jb 1 R<|Jq<|Je [1,1,1,2,2,1,1,1,2,2,2,2,1,2,2,1,2,2,2,2] R ?_
 have f17:=f4.stp (T3 S7 S11 S15) R R
 refine Jl tv R R R R (Jd2 (cs:=[vi p0.In,vi p0.Out]) I25 Z25 R R R<|haE f17.cells) ?_
 have f18:=f8.stp (S11.tr S15) R R
 refine Jl tv R R R R (Jd2 (cs:=[.slice af p1.Next.length ae,.slice ah p1.Pairs.length aa]) I100 Z100 R R R<|haE f18.cells)<|Ob h λx10 hx10 h=>?_
 have f19:=g1_0.stp (T4 S3 S7 S11 S15) R R
 have f20:=g1_1.stp (T4 S3 S7 S11 S15) R R
 refine Jh R R R C117 (jH (κ:=Mk K14) (p0:=p0) (p1:=p1) (Ji3 f19) (Ji3 f20) hx10) ?_
 rintro _ w21 ⟨k22,rfl,e23⟩
 obtain⟨K24,S25,m26⟩:=Ji e23 6 R
 refine Tv<|Jn 2 R<|Ob h λp17 h hK28=>Ju1 [(5,1),(6,1),(7,1),(8,2),(9,2)] [(10,2),(11,2),(12,1),(13,2),(14,2),(15,1),(16,2),(17,2),(18,2),(19,2)] (λL w'=>L=[(3,.pointer (some ⟨b3,0,none⟩)),(4,.pointer (some ⟨b4,0,none⟩)),(5,.pointer (some ⟨b5,0,none⟩)),(6,.pointer (some ⟨b6,0,none⟩)),(17,.bool p17)]/\∃κ',Stp [] K24 w21 κ' w') tv ?_ ?_
 revert h
 cases ht29:(!x10)
 have S001:=(T5 S3 S7 S11 S15 S25)
 refine JF λh=>Jl tv R R R R (Jd2 (cs:=[vi p0.In,vi p0.Out]) I25 Z25 R R R<|haE (f17.stp S25 R R).cells)<|Jl tv R R R R (Jd2 (cs:=[.slice ad p2.Next.length ab,.slice ac p2.Pairs.length ai]) I100 Z100 R R R<|haE (f12.stp (S15.tr S25) R R).cells)<|Ob h λx15 hx15 h=>Jh R R R C117 (jH (κ:=Mk K24) (p0:=p0) (p1:=p2) (Ji3<|g2_0.stp S001 R R) (Ji3<|g2_1.stp S001 R R) hx15) ?_
 rintro _ w34 ⟨k35,rfl,e36⟩
 obtain⟨K37,S38,m39⟩:=Ji e36 8 R
 refine Tv<|Jn 2 R ?_
 cases h
 exact Jv1 _ tv ⟨R,_,S38.wk R⟩<|KM R
 refine JT λh=>Jd1 R R R R<|Jd1 R R R R<|Jd1 R R R R<|Jn 2 R ?_
 cases h
 exact Jv1 _ tv ⟨R,_,Jj3⟩<|KM R
 rintro _ w41 _ ⟨rfl,K42,S43⟩
 have h:=hK28
 refine Jn 1 R<|Ob h λp27 h hK44=>Ju1 [(11,2),(12,1),(13,2),(14,2),(15,1),(16,2),(17,2),(18,2),(19,2)] [] (λL w'=>L=[(3,.pointer (some ⟨b3,0,none⟩)),(4,.pointer (some ⟨b4,0,none⟩)),(5,.pointer (some ⟨b5,0,none⟩)),(6,.pointer (some ⟨b6,0,none⟩)),(27,.bool p27)]/\∃κ',Stp [] K42 w41 κ' w') tv ?_ ?_
 revert h
 cases ht45:p17
 refine JF λh=>Jd3 R U100 R Z98<|Jb3 R I98 ((f18.stp (S25.tr S43) R R).ld 1 R R)<|Jn3 R U98 R R<|Jd3 R U100 R Z98<|Jb3 R I98 ((f12.stp (T3 S15 S25 S43) R R).ld 1 R R)<|Jn3 R U98 R R<|Jn 3 R ?_
 cases h
 exact Jv1 _ tv ⟨R,_,Jj3⟩<|KM R
 refine JT λh=>Jn 1 R<|Jd1 R R R R<|Jn 2 R<|Jd1 R R R R<|Jn 4 R ?_
 cases h
 exact Jv1 _ tv ⟨R,_,Jj3⟩<|KM R
 rintro _ w48 _ ⟨rfl,K49,S50⟩
 have h:=hK44
 refine Jd ?_
 revert h
 cases ht51:p27
 refine JF λh=>Jy R<|Js<|Jp<|Jq<|Js1 (κ:=K49) [2,3,4] none [(0,0),(1,0),(2,0),(3,1),(4,1),(5,2),(6,2),(7,1),(8,2)] [] (by kernel_rfl) (by kernel_rfl) λw58 S57=>Jg R (Jd2 (cs:=[.slice af p1.Next.length ae,.slice ah p1.Pairs.length aa]) I100 Z100 R R R<|haC (f18.stp (T4 S25 S43 S50 S57) R R).cells R)<|Jg R (Jd2 (cs:=[.slice ad p2.Next.length ab,.slice ac p2.Pairs.length ai]) I100 Z100 R R R<|haC (f12.stp (T5 S15 S25 S43 S50 S57) R R).cells R)<|Jg R (Jd2 (cs:=[vi p0.In,vi p0.Out]) I25 Z25 R R R<|haC (f17.stp (T4 S25 S43 S50 S57) R R).cells R)<|Ob h λx32 hx32 h=>Jh R R R C58 (eZ (κ:=Mk K49) (p0:=p0) hx32) ?_
 rintro _ w62 ⟨k63,rfl,e64⟩
 obtain⟨K65,S66,m67⟩:=Ji e64 8 R
 have S002:=(T9 S3 S7 S11 S15 S25 S43 S50 S57 S66)
 have S003:=(T5 S25 S43 S50 S57 S66)
 refine⟨(S66.cl R),Ob h λx33 hx33 h=>Jh R R R C164 (oT (κ:=Mk K65) (p0:=p1) (p1:=p2) (Ji3<|f19.stp S003 R R) (Ji3<|f20.stp S003 R R) (Ji3<|g2_0.stp S002 R R) (Ji3<|g2_1.stp S002 R R) hx33) ?_⟩
 rintro _ w73 ⟨k74,am,ak,al,aj,rfl,e75,f76,f77⟩
 obtain⟨K78,S79,m80⟩:=Ji e75 10 R
 refine⟨((S66.tr S79).cl R),Jn 2 R<|Jj1 (κ:=K78) 5 (vc:=[.slice am x33.1.Next.length ak,.slice al x33.1.Pairs.length aj]) R R R R R R R Z100 R R (f16.stp (T6 S25 S43 S50 S57 S66 S79) R R) R λw85 S86 f87=>⟨((T3 S66 S79 S86).cl R),Jn 1 R<|Jt1<|Jd<|Ju<|Ja2 (l:=[.cell 6 100,.tmp 7]) V115 (bL R f87 I100 Z100 R<|Jp2 R R) R ?_⟩⟩
 cases h
 exact⟨(λb=>ren [(12,2),(13,3)]<|K78 b),am,ak,al,aj,R,((hE.stp (T11 S3 S7 S11 S15 S25 S43 S50 S57 S66 S79 S86) R R).map (ren [(12,2),(13,3)]) R R),(((f76.mx (cm (bI _) _) m80 R (R:10+2=12)).stp S86 R R).map (ren [(12,2),(13,3)]) R R),(((f77.mx Pair.no154 m80 R (R:10+3=13)).stp S86 R R).map (ren [(12,2),(13,3)]) R R)⟩
 refine JT λh=>Jx R<|Je [2,1,2] R<|Jf R (bJ (parts:=[]) (cells:=[.slice none 0 0,.slice none 0 0]) R R (by kernel_rfl))<|Jj1 (κ:=K49) 5 (vc:=[.slice none 0 0,.slice none 0 0]) R R R R R R R Z100 R R (f16.stp (T3 S25 S43 S50) R R) R λw53 S54 f55=>Tv<|Jb 1 R<|Ju<|Jw<|Ja2 (l:=[.cell 6 100,.tmp 7]) V115 (bL R f55 I100 Z100 R<|Jp2 R R) R ?_
 cases h
 exact⟨K49,none,0,none,0,R,(hE.stp (T8 S3 S7 S11 S15 S25 S43 S50 S54) R R),Ow.nil,Ow.nil⟩
theorem pP {p0:Sig}{aM aD aN aA}{p1:Det}(g1_0:Rd (Rp.sl (Rp.int .i64)) κ w 0 aM aD p1.Next) (g1_1:Rd Pair.rp κ w 0 aN aA p1.Pairs){r:Arena×(List Pair)×Bool}(h:eV p0 p1=some r):Ret Tryz.prog 69 [.agg #[vi p0.In,vi p0.Out],.agg #[.slice aM p1.Next.length aD,.slice aN p1.Pairs.length aA]] w (λv w'=>∃(κ':Col) (ra0:Option Addr) (ru0:Nat) (ra1:Option Addr) (ru1:Nat) (ra2:Option Addr) (ru2:Nat),v= .tuple #[.agg #[.slice ra0 r.1.Owner.length ru0,.slice ra1 r.1.Next.length ru1],.slice ra2 r.2.1.length ru2,.bool r.2.2]/\Ent κ w κ' w'/\Oc E6 2 κ' w' 2 ra0 ru0 r.1.Owner/\Oc (Ep.fz (Rp.sl (Rp.int .i64))) 29 κ' w' 3 ra1 ru1 r.1.Next/\Oc Pair.ep154 154 κ' w' 4 ra2 ru2 r.2.1):=by
 unfold eV at h
 refine Jk3 κ F69 R N69 R λhE=>Je [1,1,1,2,2] R<|Jf1 (κ:=κ) 2 R R R R R R R λb2 w1 K2 S3 f4=>Tv<|Jf1 (κ:=K2) 3 R R R R R R R λb3 w5 K6 S7 f8=>Tv<|Jg1 (κ:=K6) 4 R R R R R X104 R λb4 w9 K10 S11 f12=>Tv<|Jb 2 R<|Jq<|Je [1,1,1,2] R ?_
 have f13:=f4.stp (S7.tr S11) R R
 refine Jl tv R R R R (Jd2 (cs:=[vi p0.In,vi p0.Out]) I25 Z25 R R R<|haE f13.cells) ?_
 have f14:=f8.stp S11 R R
 refine Jl tv R R R R (Jd2 (cs:=[.slice aM p1.Next.length aD,.slice aN p1.Pairs.length aA]) I100 Z100 R R R<|haE f14.cells)<|Ob h λx19 hx19 h=>?_
 have f15:=g1_0.stp (T3 S3 S7 S11) R R
 have f16:=g1_1.stp (T3 S3 S7 S11) R R
 refine Jh R R R C117 (jH (κ:=Mk K10) (p0:=p0) (p1:=p1) (Ji3 f15) (Ji3 f16) hx19) ?_
 rintro _ w17 ⟨k18,rfl,e19⟩
 obtain⟨K20,S21,m22⟩:=Ji e19 5 R
 refine Tv<|Jb 1 R ?_
 revert h
 cases ht24:(!x19)
 refine JF λh=>Jy R<|Js<|Jp<|Je [2,1,2,2] R<|Jd3 R U100 R Z26 ?_
 have f35:=f14.stp S21 R R
 refine Jb3 R I26 (f35.ld 0 R R)<|Jn3 R U26 R R<|Jb 1 R<|Je [1,1,2] R ?_
 have f36:=f13.stp S21 R R
 refine Jl tv R R R R (Jd2 (cs:=[vi p0.In,vi p0.Out]) I25 Z25 R R R<|haE f36.cells)<|Ob h λx27 hx27 h=>Jh R R R C72 (gV (κ:=Mk K20) (p0:=p0) hx27) ?_
 rintro _ w37 ⟨k38,rfl,e39⟩
 obtain⟨K40,S41,m42⟩:=Ji e39 7 R
 refine Tv<|Jb 1 R<|Je [2,1,1] R<|Jf R (bJ (parts:=[]) (cells:=[.slice none 0 0,.slice none 0 0]) R R (by kernel_rfl))<|Jg1 (κ:=K40) 9 R R R R R X104 R λb9 w44 K45 S46 f47=>Tv<|Jj1 (κ:=K45) 9 (vc:=[.slice none 0 0,.slice none 0 0]) R R R R R R R Z104 R R f47 R λw48 S49 f50=>Tv<|Jd<|Jq<|Je3 R ?_
 have hN51:(p1.Next.length:Int)<=9223372036854775807:=f15.len_le
 refine Ob h λq2 hq53 hK52=>?_
 clear h
 refine Jx1 (λL w'=>∃κ',∃s3:(List Int)×(List<|List Int),∃ax aH ay aC,L=[(2,.pointer (some ⟨b2,0,none⟩)),(3,.pointer (some ⟨b3,0,none⟩)),(4,.pointer (some ⟨b4,0,none⟩)),(7,vi (p1.Next.length:Int)),(8,vi x27),(9,.pointer (some ⟨b9,0,none⟩))]/\Stp [9,10,11,12,14] K45 w48 κ' w'/\Oc E6 2 κ' w' 10 ax aH s3.1/\Oc (Ep.fz<|Rp.sl<|Rp.int .i64) 29 κ' w' 11 ay aC s3.2/\Bc κ' w' 9 b9 104 [.slice ax s3.1.length aH,.slice ay s3.2.length aC]/\q2=xe s3) ?_ ?_
 refine Jv<|Jy1 (λk L w'=>∃κ' v10,∃s1:(List Int)×(List<|List Int),∃aR aE ak am,L=[(2,.pointer (some ⟨b2,0,none⟩)),(3,.pointer (some ⟨b3,0,none⟩)),(4,.pointer (some ⟨b4,0,none⟩)),(7,vi (p1.Next.length:Int)),(8,vi x27),(9,.pointer (some ⟨b9,0,none⟩)),(10,vi v10)]/\Stp [9,10,11,12,14] K45 w48 κ' w'/\Oc E6 2 κ' w' 10 aR aE s1.1/\Oc (Ep.fz<|Rp.sl<|Rp.int .i64) 29 κ' w' 11 ak am s1.2/\Bc κ' w' 9 b9 104 [.slice aR s1.1.length aE,.slice ak s1.2.length am]/\0<=v10/\xh ((p1.Next.length:Int)-v10)=k/\cntM (dY p1 x27) k v10 s1=some q2) ⟨_,_,⟨K45,0,((([]:List Int):(List Int)),(([]:List (List Int)):(List<|List Int))),none,0,none,0,R,Jj3,Ow.nil,Ow.nil,f50,(by decide),(by simp),hq53⟩,(KM R)⟩ ?_
 rintro k _ w60 ⟨K61,v10,s1,aR,aE,ak,am,rfl,S62,f63,f64,f65,hj51,hJ51,h⟩
 rcases k with _ | k
 have hk66:=h;obtain⟨o51,h⟩:=bP (xe (Sum.inl s1):(Arena×(List Pair)×Bool)⊕(((List Int)×(List (List Int)))⊕((List Int)×(List (List Int)))))
 have hc51:decide (v10<(p1.Next.length:Int))=false:=Jo2 (by omega)
 refine Jq<|Je3 R<|Jw2 R hc51<|Jc1<|Jt<|Jt ?_
 cases h
 have h:=hk66
 refine Jb1 ?_
 cases h
 exact Jw1 _ ⟨K61,(s1.1,s1.2),aR,aE,ak,am,R,S62.wk R,f63,f64,f65,R⟩<|KM R
 obtain⟨o51,h,hk66⟩:=BI h;unfold dY at h
 have hc51:decide (v10<(p1.Next.length:Int))=true:=Jn2 (by omega)
 refine Jq<|Je3 R<|Jv2 R hc51<|Js<|Jp<|Jq<|Jv<|Je [1,2] R<|Jo1 (κ:=K61) (E:=E6) 12 R R R R R Y29 bG R λbj bg w67 K68 S69 f70=>Tv<|Jb 1 R<|Jq<|Je3 R<|Ob h λ_ hr71 h=>?_
 have hN71:=iw hr71
 refine Ob h λq5 hq73 hK72=>?_
 clear h
 refine Jx1 (λL w'=>∃κ',∃s6:(List Int),∃al ae,L=[(2,.pointer (some ⟨b2,0,none⟩)),(3,.pointer (some ⟨b3,0,none⟩)),(4,.pointer (some ⟨b4,0,none⟩)),(7,vi (p1.Next.length:Int)),(8,vi x27),(9,.pointer (some ⟨b9,0,none⟩)),(10,vi v10),(11,.slice al s6.length ae)]/\Stp [12] K68 w67 κ' w'/\Oc E6 2 κ' w' 12 al ae s6/\q5=xe s6) ?_ ?_
 refine Jv<|Jy1 (λk L w'=>∃κ' v12,∃s4:(List Int),∃aO aI,L=[(2,.pointer (some ⟨b2,0,none⟩)),(3,.pointer (some ⟨b3,0,none⟩)),(4,.pointer (some ⟨b4,0,none⟩)),(7,vi (p1.Next.length:Int)),(8,vi x27),(9,.pointer (some ⟨b9,0,none⟩)),(10,vi v10),(11,.slice aO s4.length aI),(12,vi v12)]/\Stp [12] K68 w67 κ' w'/\Oc E6 2 κ' w' 12 aO aI s4/\0<=v12/\xh (x27-v12)=k/\cntM (dG p1 x27 v10) k v12 s4=some q5) ⟨_,_,⟨K68,0,(([]:List Int):(List Int)),bj,bg,R,Jj3,f70,(by decide),(by simp),hq73⟩,(KM R)⟩ ?_
 rintro k _ w78 ⟨K79,v12,s4,aO,aI,rfl,S80,f81,hj71,hJ71,h⟩
 rcases k with _ | k
 have hk82:=h;obtain⟨o71,h⟩:=bP (xe (Sum.inl s4):(Arena×(List Pair)×Bool)⊕(((List Int))⊕((List Int))))
 have hc71:decide (v12<x27)=false:=Jo2 (by omega)
 refine Jq<|Je3 R<|Jw2 R hc71<|Jc1<|Jt<|Jt ?_
 cases h
 have h:=hk82
 refine Jb1 ?_
 cases h
 exact Jw1 _ ⟨K79,s4,aO,aI,R,S80.wk R,f81,R⟩<|KM R
 obtain⟨o71,h,hk82⟩:=BI h;unfold dG at h
 have hc71:decide (v12<x27)=true:=Jn2 (by omega)
 refine Jq<|Je3 R<|Jv2 R hc71<|Js<|Jp<|Jq<|Jv<|Jh3 [2,2,2,2,2,2,2,2,1,1,2] 8 R<|Jn1 (κ:=K79) (E:=E6) 13 [] (parts:=[(0,.tmp 47)]) (cells:=[vi<|IntKind.i64.wrap ((IntKind.i64.wrap ((p1.Next.length:Int)+(IntKind.i64.wrap<|v10 * x27)))+v12)]) (xs:=([(IntKind.i64.wrap ((IntKind.i64.wrap ((p1.Next.length:Int)+(IntKind.i64.wrap<|v10 * x27)))+v12))]:List Int)) R R R R R R Y29 bG R R R R R R R R R R ⟨[vi<|IntKind.i64.wrap ((IntKind.i64.wrap ((p1.Next.length:Int)+(IntKind.i64.wrap<|v10 * x27)))+v12)],[],Zl K79 w78 [],Zl K79 w78 [],R,Zl.sp (l1:=[]) (l2:=[]) R,Zl.sr (l1:=[]) (l2:=[]),R,R⟩ λbu bm w83 K84 S85 f86=>Tv<|Ob h λx49 hx49 h=>Jm1 (κ:=K84) (E:=E6) 12 [] R R R R R R R R R Y29 bG R R R R (f81.stp S85 R R) (Sl.srcP (bT _) f86.rdc) bK hx49 R λbk be w88 K89 S90 f91=>Tv<|Jc 1 R<|Jz<|Jp<|Jf3 R ?_
 have hw71:t0 .i64 (v12+1)=v12+1:=wr1 hj71 (Jm2 hc71) hN71
 rw[hw71]
 have hc71:=Jm2 hc71
 cases h
 exact Jz1 λa ha=>⟨k,_,Ja3 _,⟨K89,v12+1,x49,bk,be,R,(T3 S80 S85 S90).wk R,f91,by omega,by omega,hk82⟩,(ha.mm R)⟩
 rintro _ w74 ⟨K75,s6,al,ae,rfl,S76,f77,rfl⟩
 have h:=yI hK72
 refine Jp<|Je [2,1,1,1,2,1] R<|Jd3 R U104 R Z29 ?_
 have f92:=f65.stp (S69.tr S76) R R
 refine Jb3 R I29 (f92.ld 0 R R)<|Jn1 (κ:=K75) (E:=E6) 13 [] (parts:=[(0,.const (vi 1))]) (cells:=[vi 1]) (xs:=([1]:List Int)) R R R R R R Y29 bG R R R R R R R R R R ⟨[vi 1],[],Zl K75 w74 [],Zl K75 w74 [],R,Zl.sp (l1:=[]) (l2:=[]) R,Zl.sr (l1:=[]) (l2:=[]),R,R⟩ λbp bo w93 K94 S95 f96=>Tv<|Ob h λx53 hx53 h=>Jm1 (κ:=K94) (E:=E6) 10 [] R R R R R R R R R Y29 bG R R R R (f63.stp (T3 S69 S76 S95) R R) (Sl.srcP (bT _) f96.rdc) bK hx53 R λaz aQ w98 K99 S100 f101=>Tv<|Jd3 R U104 R Z29<|Ji1 (κ:=K99) 9 (off:=0) (vc:=[.slice az x53.length aQ]) (cs':=[.slice az x53.length aQ,.slice ak s1.2.length am]) R R R R R R R Z29 R R (f92.stp (S95.tr S100) R R) R R λw103 S104 f105=>Tv<|Jd<|Ja [2,1,2,1,1,2,1] R<|Jd3 R U104 R Z26<|Jb3 R I26 (f105.ld 1 R R)<|Jn 1 R ?_
 obtain⟨K107,S108,z109⟩:=ea K99 w103 12
 refine Jn1 (κ:=K107) (E:=(Ep.fz<|Rp.sl<|Rp.int .i64)) 14 [] (parts:=[(0,.tmp 57)]) (cells:=[.slice al s6.length ae]) (xs:=([s6]:List (List Int))) R R R R R R Y26 bN R R R R R R R R R R ⟨[.slice al s6.length ae],[],Zl K107 w103 [],Zl K107 w103 [],R,Zl.sp (l1:=[]) (l2:=[]) R,Zl.sr (l1:=[]) (l2:=[]),⟨_,_,R,(Sl.z1<|Sl.st z109 (f77.stp (T3 S95 S100 S104) R R).rdc)⟩,R⟩ λbv bn w111 K112 S113 f114=>Tv<|Ob h λx59 hx59 h=>Jm1 (κ:=K112) (E:=(Ep.fz<|Rp.sl<|Rp.int .i64)) 11 [14] R R R R R R R R R Y26 bN R R R R (f64.stp (T7 S69 S76 S95 S100 S104 S108 S113) R R) f114.src (dd R) hx59 R λaY aX w116 K117 S118 f119=>Tv<|Jd3 R U104 R Z26<|Ji1 (κ:=K117) 9 (off:=1) (vc:=[.slice aY x59.length aX]) (cs':=[.slice az x53.length aQ,.slice aY x59.length aX]) R R R R R R R Z26 R R (f105.stp (T3 S108 S113 S118) R R) R R λw121 S122 f123=>Tv<|Jo<|Jz<|Jp<|Jf3 R ?_
 have hw51:t0 .i64 (v10+1)=v10+1:=wr1 hj51 (Jm2 hc51) hN51
 rw[hw51]
 have hc51:=Jm2 hc51
 cases h
 exact Jz1 λa ha=>⟨k,_,Ja3 _,⟨K117,v10+1,(x53,x59),az,aQ,aY,aX,R,(T10 S62 S69 S76 S95 S100 S104 S108 S113 S118 S122).wk R,(f101.stp (T5 S104 S108 S113 S118 S122) R R),(f119.stp S122 R R),f123,by omega,by omega,hk66⟩,(ha.mm R)⟩
 rintro _ w54 ⟨K55,s3,ax,aH,ay,aC,rfl,S56,f57,f58,f59,rfl⟩
 have h:=yI hK52
 refine Jp<|Jq<|Je3 R ?_
 have hN126:(p1.Next.length:Int)<=9223372036854775807:=f15.len_le
 refine Ob h λq8 hq128 hK127=>?_
 clear h
 refine Jx1 (λL w'=>∃κ',∃s9:(List Int)×(List<|List Int),∃ad aa ac ab,L=[(3,.pointer (some ⟨b3,0,none⟩)),(4,.pointer (some ⟨b4,0,none⟩)),(9,.pointer (some ⟨b9,0,none⟩))]/\Stp [9,10,11,16] K55 w54 κ' w'/\Oc E6 2 κ' w' 10 ad aa s9.1/\Oc (Ep.fz<|Rp.sl<|Rp.int .i64) 29 κ' w' 11 ac ab s9.2/\Bc κ' w' 9 b9 104 [.slice ad s9.1.length aa,.slice ac s9.2.length ab]/\q8=xe s9) ?_ ?_
 refine Jv<|Jy1 (λk L w'=>∃κ' v13,∃s7:(List Int)×(List<|List Int),∃ah aj ai an,L=[(2,.pointer (some ⟨b2,0,none⟩)),(3,.pointer (some ⟨b3,0,none⟩)),(4,.pointer (some ⟨b4,0,none⟩)),(7,vi (p1.Next.length:Int)),(8,vi x27),(9,.pointer (some ⟨b9,0,none⟩)),(13,vi v13)]/\Stp [9,10,11,16] K55 w54 κ' w'/\Oc E6 2 κ' w' 10 ah aj s7.1/\Oc (Ep.fz<|Rp.sl<|Rp.int .i64) 29 κ' w' 11 ai an s7.2/\Bc κ' w' 9 b9 104 [.slice ah s7.1.length aj,.slice ai s7.2.length an]/\0<=v13/\xh ((p1.Next.length:Int)-v13)=k/\cntM (dT p0 p1 x27) k v13 s7=some q8) ⟨_,_,⟨K55,0,(s3.1,s3.2),ax,aH,ay,aC,R,Jj3,f57,f58,f59,(by decide),(by simp),hq128⟩,(KM R)⟩ ?_
 rintro k _ w135 ⟨K136,v13,s7,ah,aj,ai,an,rfl,S137,f138,f139,f140,hj126,hJ126,h⟩
 rcases k with _ | k
 have hk141:=h;obtain⟨o126,h⟩:=bP (xe (Sum.inl s7):(Arena×(List Pair)×Bool)⊕(((List Int)×(List (List Int)))⊕((List Int)×(List (List Int)))))
 have hc126:decide (v13<(p1.Next.length:Int))=false:=Jo2 (by omega)
 refine Jq<|Je3 R<|Jw2 R hc126<|Jc1<|Jt<|Jt ?_
 cases h
 have h:=hk141
 refine Jb1 ?_
 cases h
 exact Jw1 _ ⟨K136,(s7.1,s7.2),ah,aj,ai,an,R,S137.wk R,f138,f139,f140,R⟩<|KM R
 obtain⟨o126,h,hk141⟩:=BI h;unfold dT at h
 have hc126:decide (v13<(p1.Next.length:Int))=true:=Jn2 (by omega)
 refine Jq<|Je3 R<|Jv2 R hc126<|Js<|Jp<|Jq<|Jv<|Je3 R<|Ob h λ_ hr142 h=>?_
 have hN142:=iw hr142
 refine Ob h λq11 hq144 hK143=>?_
 clear h
 refine Jx1 (λL w'=>∃κ',∃s12:(List Int)×(List<|List Int),∃aL aF aJ aG,L=[(2,.pointer (some ⟨b2,0,none⟩)),(3,.pointer (some ⟨b3,0,none⟩)),(4,.pointer (some ⟨b4,0,none⟩)),(7,vi (p1.Next.length:Int)),(8,vi x27),(9,.pointer (some ⟨b9,0,none⟩)),(13,vi v13)]/\Stp [9,10,11,16] K136 w135 κ' w'/\Oc E6 2 κ' w' 10 aL aF s12.1/\Oc (Ep.fz<|Rp.sl<|Rp.int .i64) 29 κ' w' 11 aJ aG s12.2/\Bc κ' w' 9 b9 104 [.slice aL s12.1.length aF,.slice aJ s12.2.length aG]/\q11=xe s12) ?_ ?_
 refine Jv<|Jy1 (λk L w'=>∃κ' v14,∃s10:(List Int)×(List<|List Int),∃aq aT ao af,L=[(2,.pointer (some ⟨b2,0,none⟩)),(3,.pointer (some ⟨b3,0,none⟩)),(4,.pointer (some ⟨b4,0,none⟩)),(7,vi (p1.Next.length:Int)),(8,vi x27),(9,.pointer (some ⟨b9,0,none⟩)),(13,vi v13),(14,vi v14)]/\Stp [9,10,11,16] K136 w135 κ' w'/\Oc E6 2 κ' w' 10 aq aT s10.1/\Oc (Ep.fz<|Rp.sl<|Rp.int .i64) 29 κ' w' 11 ao af s10.2/\Bc κ' w' 9 b9 104 [.slice aq s10.1.length aT,.slice ao s10.2.length af]/\0<=v14/\xh (x27-v14)=k/\cntM (dL p0 p1 v13) k v14 s10=some q11) ⟨_,_,⟨K136,0,(s7.1,s7.2),ah,aj,ai,an,R,Jj3,f138,f139,f140,(by decide),(by simp),hq144⟩,(KM R)⟩ ?_
 rintro k _ w151 ⟨K152,v14,s10,aq,aT,ao,af,rfl,S153,f154,f155,f156,hj142,hJ142,h⟩
 rcases k with _ | k
 have hk157:=h;obtain⟨o142,h⟩:=bP (xe (Sum.inl s10):(Arena×(List Pair)×Bool)⊕(((List Int)×(List (List Int)))⊕((List Int)×(List (List Int)))))
 have hc142:decide (v14<x27)=false:=Jo2 (by omega)
 refine Jq<|Je3 R<|Jw2 R hc142<|Jc1<|Jt<|Jt ?_
 cases h
 have h:=hk157
 refine Jb1 ?_
 cases h
 exact Jw1 _ ⟨K152,(s10.1,s10.2),aq,aT,ao,af,R,S153.wk R,f154,f155,f156,R⟩<|KM R
 obtain⟨o142,h,hk157⟩:=BI h;unfold dL at h
 have hc142:decide (v14<x27)=true:=Jn2 (by omega)
 refine Jq<|Je3 R<|Jv2 R hc142<|Js<|Jp<|Jq<|Jv<|Je [2,1,1,1,2,1] R<|Jd3 R U104 R Z29<|Jb3 R I29 (f156.ld 0 R R)<|Jn1 (κ:=K152) (E:=E6) 12 [] (parts:=[(0,.const (vi 0))]) (cells:=[vi 0]) (xs:=([0]:List Int)) R R R R R R Y29 bG R R R R R R R R R R ⟨[vi 0],[],Zl K152 w151 [],Zl K152 w151 [],R,Zl.sp (l1:=[]) (l2:=[]) R,Zl.sr (l1:=[]) (l2:=[]),R,R⟩ λbw br w158 K159 S160 f161=>Tv<|Ob h λx74 hx74 h=>Jm1 (κ:=K159) (E:=E6) 10 [] R R R R R R R R R Y29 bG R R R R (f154.stp S160 R R) (Sl.srcP (bT _) f161.rdc) bK hx74 R λaU aw w163 K164 S165 f166=>Tv<|Jd3 R U104 R Z29<|Ji1 (κ:=K164) 9 (off:=0) (vc:=[.slice aU x74.length aw]) (cs':=[.slice aU x74.length aw,.slice ao s10.2.length af]) R R R R R R R Z29 R R (f156.stp (S160.tr S165) R R) R R λw168 S169 f170=>Tv<|Jd<|Js1 (κ:=K164) [2,3,9] (some 10) [(0,2),(4,2),(5,2),(1,0),(2,0),(3,0),(6,1),(7,1),(8,1),(9,2)] [(10,1)] (by kernel_rfl) (by kernel_rfl) λw172 S171=>Jd3 R U104 R Z26<|Jn 2 R ?_
 have f173:=f170.stp S171 R R
 have S001:=(T11 S21 S41 S46 S49 S56 S137 S153 S160 S165 S169 S171)
 have S002:=(T10 S41 S46 S49 S56 S137 S153 S160 S165 S169 S171)
 refine Jg R (Jc2 I26 R R<|hvC (f173.ld 1 R R) R)<|Jg R (Jd2 (cs:=[vi p0.In,vi p0.Out]) I25 Z25 R R R<|haC (f36.stp S002 R R).cells R)<|Jg R (Jd2 (cs:=[.slice aM p1.Next.length aD,.slice aN p1.Pairs.length aA]) I100 Z100 R R R<|haC (f35.stp S002 R R).cells R)<|Ob h λx82 hx82 h=>Jh R R R C118 (pU (κ:=λb=>mp [] 1<|K164 b) (p0:=p0) (p1:=p1) (Jl2 (f15.stp S001 R R) (mp [] 1) R R) (Jl2 (f16.stp S001 R R) (mp [] 1) R R) hx82) ?_
 rintro _ w178 ⟨k179,aZ,ba,rfl,e180,f181⟩
 obtain⟨K182,S183,m184,z185⟩:=Jj e180 13 R
 refine⟨(S183.cl R),Jn1 (κ:=K182) (E:=(Ep.fz<|Rp.sl<|Rp.int .i64)) 16 [] (parts:=[(0,.tmp 82)]) (cells:=[.slice aZ x82.length ba]) (xs:=([x82]:List (List Int))) R R R R R R Y26 bN R R R R R R R R R R ⟨[.slice aZ x82.length ba],[],Zl K182 w178 [],Zl K182 w178 [],R,Zl.sp (l1:=[]) (l2:=[]) R,Zl.sr (l1:=[]) (l2:=[]),⟨_,_,R,(Sl.z1<|f181.mx z185)⟩,R⟩ λbq bs w187 K188 S189 f190=>⟨((S183.tr S189).cl R),Ob h λx84 hx84 h=>Jm1 (κ:=K188) (E:=(Ep.fz<|Rp.sl<|Rp.int .i64)) 11 [16] R R R R R R R R R Y26 bN R R R R (f155.stp (T6 S160 S165 S169 S171 S183 S189) R R) f190.src (dd R) hx84 R λaW aV w192 K193 S194 f195=>⟨((T3 S183 S189 S194).cl R),Jd3 R U104 R Z26<|Jt1<|Ji1 (κ:=K193) 9 (off:=1) (vc:=[.slice aW x84.length aV]) (cs':=[.slice aU x74.length aw,.slice aW x84.length aV]) R R R R R R R Z26 R R (f173.stp (T3 S183 S189 S194) R R) R R λw197 S198 f199=>Tv<|Jo<|Jz<|Jp<|Jf3 R ?_⟩⟩⟩
 have hw142:t0 .i64 (v14+1)=v14+1:=wr1 hj142 (Jm2 hc142) hN142
 rw[hw142]
 have hc142:=Jm2 hc142
 cases h
 exact Jz1 λa ha=>⟨k,_,Ja3 _,⟨K193,v14+1,(x74,x84),aU,aw,aW,aV,R,(T9 S153 S160 S165 S169 S171 S183 S189 S194 S198).wk R,(f166.stp (T6 S169 S171 S183 S189 S194 S198) R R),(f195.stp S198 R R),f199,by omega,by omega,hk157⟩,(ha.mm R)⟩
 rintro _ w145 ⟨K146,s12,aL,aF,aJ,aG,rfl,S147,f148,f149,f150,rfl⟩
 have h:=yI hK143
 refine Jz<|Jp<|Jf3 R ?_
 have hw126:t0 .i64 (v13+1)=v13+1:=wr1 hj126 (Jm2 hc126) hN126
 rw[hw126]
 have hc126:=Jm2 hc126
 cases h
 exact Jz1 λa ha=>⟨k,_,Ja3 _,⟨K146,v13+1,(s12.1,s12.2),aL,aF,aJ,aG,R,(S137.tr S147).wk R,f148,f149,f150,by omega,by omega,hk141⟩,(ha.mm R)⟩
 rintro _ w129 ⟨K130,s9,ad,aa,ac,ab,rfl,S131,f132,f133,f134,rfl⟩
 have h:=yI hK127
 refine Jp<|Je [1,2] R<|Jo1 (κ:=K130) (E:=Pair.ep154) 12 R R R R R Y98 cv R λbi bf w202 K203 S204 f205=>Tv<|Jb 1 R<|Jq<|Je3 R ?_
 have hN206:(p1.Pairs.length:Int)<=9223372036854775807:=f16.len_le
 refine Ob h λq14 hq208 hK207=>?_
 clear h
 refine Jx1 (λL w'=>∃κ',∃s15:(List Pair),∃aS ap,L=[(4,.pointer (some ⟨b4,0,none⟩)),(9,.pointer (some ⟨b9,0,none⟩)),(15,.slice aS s15.length ap)]/\Stp [12,15,18,19] K203 w202 κ' w'/\Oc Pair.ep154 154 κ' w' 12 aS ap s15/\q14=xe s15) ?_ ?_
 refine Jv<|Jy1 (λk L w'=>∃κ' v16,∃s13:(List Pair),∃aP ar,L=[(3,.pointer (some ⟨b3,0,none⟩)),(4,.pointer (some ⟨b4,0,none⟩)),(9,.pointer (some ⟨b9,0,none⟩)),(15,.slice aP s13.length ar),(16,vi v16)]/\Stp [12,15,18,19] K203 w202 κ' w'/\Oc Pair.ep154 154 κ' w' 12 aP ar s13/\0<=v16/\xh ((p1.Pairs.length:Int)-v16)=k/\cntM (dP p1) k v16 s13=some q14) ⟨_,_,⟨K203,0,(([]:List Pair):(List Pair)),bi,bf,R,Jj3,f205,(by decide),(by simp),hq208⟩,(KM R)⟩ ?_
 rintro k _ w213 ⟨K214,v16,s13,aP,ar,rfl,S215,f216,hj206,hJ206,h⟩
 rcases k with _ | k
 have hk217:=h;obtain⟨o206,h⟩:=bP (xe (Sum.inl s13):(Arena×(List Pair)×Bool)⊕(((List Pair))⊕((List Pair))))
 have hc206:decide (v16<(p1.Pairs.length:Int))=false:=Jo2 (by omega)
 refine Jq<|Jg3 [2,2,1,2,2] 1 R<|Jd3 R U100 R Z98<|Jb3 R I98 ((f35.stp (T7 S41 S46 S49 S56 S131 S204 S215) R R).ld 1 R R)<|Jn3 R U98 R R<|Jb 1 R<|Jw2 R hc206<|Jc1<|Jt<|Jt ?_
 cases h
 have h:=hk217
 refine Jb1 ?_
 cases h
 exact Jw1 _ ⟨K214,s13,aP,ar,R,S215.wk R,f216,R⟩<|KM R
 obtain⟨o206,h,hk217⟩:=BI h;unfold dP at h
 have hc206:decide (v16<(p1.Pairs.length:Int))=true:=Jn2 (by omega)
 refine Jq<|Jg3 [2,2,1,2,2] 1 R<|Jd3 R U100 R Z98 ?_
 have f219:=f35.stp (T7 S41 S46 S49 S56 S131 S204 S215) R R
 refine Jb3 R I98 (f219.ld 1 R R)<|Jn3 R U98 R R<|Jb 1 R<|Jv2 R hc206<|Js<|Jp<|Jq<|Jv<|Js1 (κ:=K214) [0,3] none [(0,2),(1,2),(3,2),(8,2),(10,2),(2,0),(4,2),(5,2),(6,0),(9,0),(11,2),(12,2),(13,0),(7,1),(14,1),(15,2),(16,1),(17,1),(18,2)] [] (by kernel_rfl) (by kernel_rfl) λw221 S220=>Jn 1 R<|Jd3 R U100 R Z98<|Jn 1 R<|Jd3 R U100 R Z98<|Jn 1 R ?_
 have f222:=f219.stp S220 R R
 refine Jg R (Jc2 I98 R R<|hvC (f222.ld 1 R R) R)<|Ob h λx98 hx98 h=>Jc3 R f16 hx98 U98 Z154<|Jd3 R U154 R Z29 ?_
 have f223:=f16.stp (T9 S21 S41 S46 S49 S56 S131 S204 S215 S220) R R
 obtain⟨cse224,hre224,hle224⟩:=(f223).gSt hx98
 obtain⟨ae224_0,ue224_0,ae224_1,ue224_1,rfl,fe224_0,fe224_1⟩:=Pair.un hre224
 refine Jg R (Jc2 I29 R R<|hvC (λw' hw'=>hle224 w' hw' 0 _ R) R)<|Jg R (Jc2 I98 R R<|hvC (f222.ld 1 R R) R)<|Ob h λx105 hx105 h=>Jc3 R f223 hx105 U98 Z154<|Jd3 R U154 R Z29 ?_
 obtain⟨cse225,hre225,hle225⟩:=(f223).gSt hx105
 obtain⟨ae225_0,ue225_0,ae225_1,ue225_1,rfl,fe225_0,fe225_1⟩:=Pair.un hre225
 refine Jg R (Jc2 I29 R R<|hvC (λw' hw'=>hle225 w' hw' 1 _ R) R)<|Ob h λx101 hx101 h=>Jh R R R C56 (dx (κ:=Mk K214) (Ji3 fe224_0) hx101) ?_
 rintro _ w226 ⟨k227,aK,aB,rfl,e228,f229⟩
 obtain⟨K230,S231,m232⟩:=Ji e228 13 R
 refine⟨(S231.cl R),Ob h λx108 hx108 h=>Jh R R R C56 (dx (κ:=Mk K230) (Ji3<|fe225_1.stp S231 R R) hx108) ?_⟩
 rintro _ w236 ⟨k237,av,au,rfl,e238,f239⟩
 obtain⟨K240,S241,m242⟩:=Ji e238 16 R
 have S003:=(S231.tr S241)
 refine⟨(S003.cl R),Jf R (bJ (parts:=[(0,.tmp 101),(1,.tmp 108)]) (cells:=[.slice aK x101.length aB,.slice av x108.length au]) R R (by kernel_rfl))<|Jn1 (κ:=K240) (E:=Pair.ep154) 19 [15,18] (parts:=[(0,.tmp 109)]) (cells:=[.slice aK x101.length aB,.slice av x108.length au]) (xs:=([(⟨x101,x108⟩:Pair)]:List Pair)) R R R R R R Y98 cv R R R R R R R R R R ⟨[.slice aK x101.length aB,.slice av x108.length au],[],Zl K240 w236 [15,18],Zl K240 w236 [],R,Zl.sp (l1:=[15,18]) (l2:=[]) R,Zl.sr (l1:=[15,18]) (l2:=[]),⟨[.slice aK x101.length aB],[.slice av x108.length au],Zl K240 w236 [15],Zl K240 w236 [18],R,Zl.sp (l1:=[15]) (l2:=[18]) R,Zl.sr (l1:=[15]) (l2:=[18]),⟨_,_,R,((f229.mx (bI _) m232 R (R:13+2=15)).stp S241 R R)⟩,⟨_,_,R,(f239.mx (bI _) m242 R (R:16+2=18))⟩⟩,R⟩ λbl bt w246 K247 S248 f249=>⟨((S003.tr S248).cl R),Ob h λx111 hx111 h=>Jm1 (κ:=K247) (E:=Pair.ep154) 12 [19] R R R R R R R R R Y98 cv R R R R (f216.stp (T4 S220 S231 S241 S248) R R) f249.src (dd R) hx111 R λbb bc w251 K252 S253 f254=>⟨((T3 S003 S248 S253).cl R),Jn 1 R<|Jt1<|Jo<|Jz<|Jp<|Jf3 R ?_⟩⟩⟩
 have hw206:t0 .i64 (v16+1)=v16+1:=wr1 hj206 (Jm2 hc206) hN206
 rw[hw206]
 have hc206:=Jm2 hc206
 cases h
 exact Jz1 λa ha=>⟨k,_,Ja3 _,⟨K252,v16+1,x111,bb,bc,R,(T6 S215 S220 S231 S241 S248 S253).wk R,f254,by omega,by omega,hk217⟩,(ha.mm R)⟩
 rintro _ w209 ⟨K210,s15,aS,ap,rfl,S211,f212,rfl⟩
 have h:=yI hK207
 refine Jp<|Je [1,2,1,2,2] R<|Jl tv R R R R (Jd2 (cs:=[.slice ad s9.1.length aa,.slice ac s9.2.length ab]) I104 Z104 R R R<|haE (f134.stp (S204.tr S211) R R).cells)<|Jn 1 R<|Jj1 (κ:=K210) 4 (vc:=[.slice ad s9.1.length aa,.slice ac s9.2.length ab]) R R R R R R R Z104 R R (f12.stp (T8 S21 S41 S46 S49 S56 S131 S204 S211) R R) R λw257 S258 f259=>Tv<|Jb 2 R<|Ju<|Ja2 (l:=[.cell 4 104,.tmp 5,.tmp 6]) V69 (bL R f259 I104 Z104 R<|Jp2 R<|Jp2 R R) R ?_
 cases h
 have S004:=(T3 S204 S211 S258)
 exact⟨(λb=>ren [(10,2),(11,3),(12,4)]<|K210 b),ad,aa,ac,ab,aS,ap,R,((hE.stp (T12 S3 S7 S11 S21 S41 S46 S49 S56 S131 S204 S211 S258) R R).map (ren [(10,2),(11,3),(12,4)]) R R),((f132.stp S004 R R).map (ren [(10,2),(11,3),(12,4)]) R R),((f133.stp S004 R R).map (ren [(10,2),(11,3),(12,4)]) R R),((f212.stp S258 R R).map (ren [(10,2),(11,3),(12,4)]) R R)⟩
 refine JT λh=>Jx R<|Je [2,1,1,2,2] R<|Jf R (bJ (parts:=[]) (cells:=[.slice none 0 0,.slice none 0 0]) R R (by kernel_rfl))<|Jo1 (κ:=K20) (E:=Pair.ep154) 7 R R R R R Y98 cv R λbh bd w25 K26 S27 f28=>Tv<|Jj1 (κ:=K26) 4 (vc:=[.slice none 0 0,.slice none 0 0]) R R R R R R R Z104 R R (f12.stp (S21.tr S27) R R) R λw30 S31 f32=>Tv<|Jb 2 R<|Ju<|Jw<|Ja2 (l:=[.cell 4 104,.tmp 5,.tmp 6]) V69 (bL R f32 I104 Z104 R<|Jp2 R<|Jp2 R R) R ?_
 cases h
 exact⟨(λb=>ren [(7,4)]<|K26 b),none,0,none,0,bh,bd,R,((hE.stp (T6 S3 S7 S11 S21 S27 S31) R R).map (ren [(7,4)]) R R),Ow.nil,Ow.nil,((f28.stp S31 R R).map (ren [(7,4)]) R R)⟩
theorem qb {aa ad ae ab af ac}{p0:Parity}{a1 u1}{p1:(List Int)}(g0_0_0:Rd (Rp.int .i64) κ w 0 aa ad p0.Arena.Owner) (g0_0_1:Rd (Rp.sl (Rp.int .i64)) κ w 0 ae ab p0.Arena.Next) (g0_1:Rd (Rp.int .i64) κ w 0 af ac p0.Prio) (g1:Rd (Rp.int .i64) κ w 0 a1 u1 p1){r:Bool}(h:jR p0 p1=some r):Ret Tryz.prog 173 [.agg #[.slice aa p0.Arena.Owner.length ad,.slice ae p0.Arena.Next.length ab,.slice af p0.Prio.length ac],.slice a1 p1.length u1] w (Pvb κ w r):=by
 unfold jR at h
 refine Jk3 κ F173 R N173 R λhE=>Je [1,2] R<|Jf1 (κ:=κ) 2 R R R R R R R λb2 w1 K2 S3 f4=>Tv<|Jb 1 R<|Je [1,2,1,2,2,2,1,1,2] R<|Jl tv R R R R (Jd2 (cs:=[.slice aa p0.Arena.Owner.length ad,.slice ae p0.Arena.Next.length ab,.slice af p0.Prio.length ac]) I108 Z108 R R R<|haE f4.cells)<|Jn 1 R<|Ob h λx10 hx10 h=>?_
 have f5:=g0_0_0.stp S3 R R
 have f6:=g0_0_1.stp S3 R R
 have f7:=g0_1.stp S3 R R
 refine Jh R R R C211 (rP (κ:=Mk K2) (p0:=p0) (Ji3 f5) (Ji3 f6) (Ji3 f7) (Ji3<|g1.stp S3 R R) hx10) ?_
 rintro _ w9 ⟨k10,ai,am,aj,ak,al,ah,rfl,e11,f12,f13,f14⟩
 obtain⟨K15,S16,m17⟩:=Ji e11 3 R
 refine Tv<|Jn 3 R<|Jg1 (κ:=K15) 8 R R R R R X108 R λb5 w22 K23 S24 f25=>Tv<|Jj1 (κ:=K23) 8 (vc:=[.slice ai x10.1.Arena.Owner.length am,.slice aj x10.1.Arena.Next.length ak,.slice al x10.1.Prio.length ah]) R R R R R R R Z108 R R f25 R λw26 S27 f28=>Tv<|Jb 1 R<|Jq<|Js1 (κ:=K23) [2,8] none [(0,2),(1,2),(2,0),(4,0),(3,1),(5,1),(6,1),(7,2),(8,2)] [] (by kernel_rfl) (by kernel_rfl) λw30 S29=>Jn 2 R<|Ob h λp20 h hK31=>Ju1 [(2,0),(4,0),(3,1),(5,1),(6,1),(7,2)] [(8,2)] (λL w'=>L=[(4,.bool false),(20,.bool p20)]/\∃κ',Stp [] K23 w30 κ' w') (Cl.refl _ _ _) ?_ ?_
 revert h
 cases ht32:x10.2
 refine JF λh=>Je1 R R R R<|Je1 R R R R<|Jd1 R R R R<|Jd1 R R R R<|Jd1 R R R R<|Jn 1 R ?_
 cases h
 exact Jv1 _ (Cl.refl _ _ _) ⟨R,_,Jj3⟩<|KM R
 have S001:=(T3 S24 S27 S29)
 refine JT λh=>Jg R (Jd2 (cs:=[.slice ai x10.1.Arena.Owner.length am,.slice aj x10.1.Arena.Next.length ak,.slice al x10.1.Prio.length ah]) I108 Z108 R R R<|haC (f28.stp S29 R R).cells R)<|Jg R (Jd2 (cs:=[.slice aa p0.Arena.Owner.length ad,.slice ae p0.Arena.Next.length ab,.slice af p0.Prio.length ac]) I108 Z108 R R R<|haC (f4.stp (T4 S16 S24 S27 S29) R R).cells R)<|Ob h λx16 hx16 h=>Jh R R R C174 (mP (κ:=Mk K23) (p0:=x10.1) (Ji3 ((f12.mx (bI _) m17 R (R:3+2=5)).stp S001 R R).rdc) (Ji3 ((f13.mx (cm (bI _) _) m17 R (R:3+3=6)).stp S001 R R).rdc) (Ji3 ((f14.mx (bI _) m17 R (R:3+4=7)).stp S001 R R).rdc) hx16) ?_
 rintro _ w38 ⟨k39,an,ao,rfl,e40,f41⟩
 obtain⟨K42,S43,m44⟩:=Ji e40 9 R
 have S002:=(T5 S16 S24 S27 S29 S43)
 refine⟨(S43.cl R),Ob h λx18 hx18 h=>Jh R R R C174 (mP (κ:=Mk K42) (p0:=p0) (Ji3<|f5.stp S002 R R) (Ji3<|f6.stp S002 R R) (Ji3<|f7.stp S002 R R) hx18) ?_⟩
 rintro _ w50 ⟨k51,ap,aq,rfl,e52,f53⟩
 obtain⟨K54,S55,m56⟩:=Ji e52 12 R
 refine⟨((S43.tr S55).cl R),Ob h λx19 hx19 h=>Jh R R R C212 (rO (κ:=Mk K54) (Ji3 ((f41.mx (bI _) m44 R (R:9+2=11)).stp S55 R R).rdc) (Ji3 (f53.mx (bI _) m56 R (R:12+2=14)).rdc) hx19) ?_⟩
 rintro _ w60 ⟨k61,rfl,e62⟩
 obtain⟨K63,S64,m65⟩:=Ji e62 15 R
 refine⟨((T3 S43 S55 S64).cl R),Jn 1 R ?_⟩
 cases h
 exact Jv1 _ ((T3 S43 S55 S64).cl R) ⟨R,_,(T3 S43 S55 S64).wk R⟩<|KM R
 rintro _ w67 _ ⟨rfl,K68,S69⟩
 have h:=hK31
 refine Jn 1 R<|Jt1<|Jd<|Ju<|Ja2 (l:=[.tmp 4]) V173 (Jp2 R R) R ?_
 cases h
 exact⟨K68,R,(hE.stp (T6 S3 S16 S24 S27 S29 S69) R R)⟩
theorem pS {p0:Sig}{aa ad ab ac}{p1:Det}{p2:Int}{p3:Int}(g1_0:Rd (Rp.sl (Rp.int .i64)) κ w 0 aa ad p1.Next) (g1_1:Rd Pair.rp κ w 0 ab ac p1.Pairs){r:Int}(h:jO p0 p1 p2 p3=some r):Ret Tryz.prog 145 [.agg #[vi p0.In,vi p0.Out],.agg #[.slice aa p1.Next.length ad,.slice ab p1.Pairs.length ac],vi p2,vi p3] w (Pvi κ w r):=by
 unfold jO at h
 refine Jk3 κ F145 R N145 R λhE=>Je [1,1,2] R<|Jf1 (κ:=κ) 2 R R R R R R R λb4 w1 K2 S3 f4=>Tv<|Jf1 (κ:=K2) 3 R R R R R R R λb5 w5 K6 S7 f8=>Tv<|Jb 1 R<|Je [2,1,2,2] R<|Jd3 R U100 R Z26<|Jb3 R I26 (f8.ld 0 R R)<|Jn3 R U26 R R<|Jb 1 R<|Jq<|Je [1,1,1,2,2,2,2,2,1,2,2,2,2,1,1,2,1,2,2] R ?_
 have f9:=f4.stp S7 R R
 refine Jl tv R R R R (Jd2 (cs:=[vi p0.In,vi p0.Out]) I25 Z25 R R R<|haE f9.cells)<|Jl tv R R R R (Jd2 (cs:=[.slice aa p1.Next.length ad,.slice ab p1.Pairs.length ac]) I100 Z100 R R R<|haE f8.cells)<|Ob h λx15 hx15 h=>Jh R R R C117 (jH (κ:=Mk K6) (p0:=p0) (p1:=p1) (Ji3<|g1_0.stp (S3.tr S7) R R) (Ji3<|g1_1.stp (S3.tr S7) R R) hx15) ?_
 rintro _ w12 ⟨k13,rfl,e14⟩
 obtain⟨K15,S16,m17⟩:=Ji e14 4 R
 refine Tv<|Jn 2 R<|Ob h λp23 h hK19=>Ju1 [(5,2),(6,2),(7,2),(8,1),(9,2),(10,2)] [(11,2),(12,2),(13,1),(14,1),(15,2),(16,1),(17,2),(18,2)] (λL w'=>L=[(2,vi p2),(3,vi p3),(4,.pointer (some ⟨b4,0,none⟩)),(9,vi (p1.Next.length:Int)),(23,.bool p23)]/\∃κ',Stp [] K15 w12 κ' w') tv ?_ ?_
 revert h
 cases ht20:(!x15)
 refine JF λh=>Jn 3 R<|Ob h λx21 hx21 h=>Jh R R R C57 (cD (κ:=Mk K15) hx21) ?_
 rintro _ w21 ⟨k22,rfl,e23⟩
 obtain⟨K24,S25,m26⟩:=Ji e23 6 R
 refine Tv<|Jn 2 R ?_
 cases h
 exact Jv1 _ tv ⟨R,_,S25.wk R⟩<|KM R
 refine JT λh=>Jn 3 R<|Jd1 R R R R<|Jn 2 R ?_
 cases h
 exact Jv1 _ tv ⟨R,_,Jj3⟩<|KM R
 rintro _ w28 _ ⟨rfl,K29,S30⟩
 have h:=hK19
 refine Jn 1 R<|Ob h λp31 h hK31=>Ju1 [(12,2),(13,1),(14,1),(15,2),(16,1),(17,2),(18,2)] [] (λL w'=>L=[(2,vi p2),(3,vi p3),(4,.pointer (some ⟨b4,0,none⟩)),(9,vi (p1.Next.length:Int)),(31,.bool p31)]/\∃κ',Stp [] K29 w28 κ' w') tv ?_ ?_
 revert h
 cases ht32:p23
 refine JF λh=>Jn 1 R<|Jl tv R R R R (Jd2 (cs:=[vi p0.In,vi p0.Out]) I25 Z25 R R R<|haE (f9.stp (S16.tr S30) R R).cells)<|Ob h λx27 hx27 h=>Jh R R R C72 (gV (κ:=Mk K29) (p0:=p0) hx27) ?_
 rintro _ w34 ⟨k35,rfl,e36⟩
 obtain⟨K37,S38,m39⟩:=Ji e36 6 R
 refine Tv<|Jn 1 R<|Ob h λx29 hx29 h=>Jh R R R C57 (cD (κ:=Mk K37) hx29) ?_
 rintro _ w41 ⟨k42,rfl,e43⟩
 obtain⟨K44,S45,m46⟩:=Ji e43 8 R
 refine Tv<|Jn 2 R ?_
 cases h
 exact Jv1 _ tv ⟨R,_,(S38.tr S45).wk R⟩<|KM R
 refine JT λh=>Jn 1 R<|Jd1 R R R R<|Jd1 R R R R<|Jn 1 R<|Jd1 R R R R<|Jn 2 R ?_
 cases h
 exact Jv1 _ tv ⟨R,_,Jj3⟩<|KM R
 rintro _ w48 _ ⟨rfl,K49,S50⟩
 have h:=hK31
 refine Jd ?_
 revert h
 cases ht51:p31
 refine JF λh=>Jy R<|Js<|Jp<|Jq<|Je3 R ?_
 revert h
 cases ht53:(p3==(-1))
 refine JF λh=>Jy R<|Js<|Jp<|Jg3 [2,2,1,1,2,2,2,2,2] 2 R<|Jl tv R R R R (Jd2 (cs:=[vi p0.In,vi p0.Out]) I25 Z25 R R R<|haE (f9.stp (T3 S16 S30 S50) R R).cells)<|Ob h λx38 hx38 h=>Jh R R R C72 (gV (κ:=Mk K49) (p0:=p0) hx38) ?_
 rintro _ w56 ⟨k57,rfl,e58⟩
 obtain⟨K59,S60,m61⟩:=Ji e58 6 R
 refine Tv<|Jb 5 R<|Ju<|Ja2 (l:=[.tmp 8]) V145 (Jp2 R R) R ?_
 cases h
 exact⟨K59,R,(hE.stp (T6 S3 S7 S16 S30 S50 S60) R R)⟩
 refine JT λh=>Jx R<|Je3 R<|Ju<|Jw<|Ja2 (l:=[.tmp 8]) V145 (Jp2 R R) R ?_
 cases h
 exact⟨K49,R,(hE.stp (T5 S3 S7 S16 S30 S50) R R)⟩
 refine JT λh=>Jx R<|Je3 R<|Ju<|Jw<|Ja2 (l:=[.tmp 8]) V145 (Jp2 R R) R ?_
 cases h
 exact⟨K49,R,(hE.stp (T5 S3 S7 S16 S30 S50) R R)⟩
theorem pl {p0:Sig}{al ak am aj}{p1:Det}{p2:Int}{p3:Int}{p4:Int}(g1_0:Rd (Rp.sl (Rp.int .i64)) κ w 0 al ak p1.Next) (g1_1:Rd Pair.rp κ w 0 am aj p1.Pairs){r:(List Int)}(h:iQ p0 p1 p2 p3 p4=some r):Ret Tryz.prog 146 [.agg #[vi p0.In,vi p0.Out],.agg #[.slice al p1.Next.length ak,.slice am p1.Pairs.length aj],vi p2,vi p3,vi p4] w (Pvs E6 2 κ w r):=by
 unfold iQ at h
 refine Jk3 κ F146 R N146 R λhE=>Je [1,1,2] R<|Jf1 (κ:=κ) 2 R R R R R R R λb5 w1 K2 S3 f4=>Tv<|Jf1 (κ:=K2) 3 R R R R R R R λb6 w5 K6 S7 f8=>Tv<|Jb 1 R<|Je [1,2] R<|Jo1 (κ:=K6) (E:=E6) 4 R R R R R Y29 bG R λai ad w9 K10 S11 f12=>Tv<|Jb 1 R<|Jq<|Je [1,1,1,2,2,2,2,1,2,2,1,2,2,2,2,1,1,2,1,2,2] R ?_
 have f13:=f4.stp (S7.tr S11) R R
 refine Jl tv R R R R (Jd2 (cs:=[vi p0.In,vi p0.Out]) I25 Z25 R R R<|haE f13.cells) ?_
 have f14:=f8.stp S11 R R
 refine Jl tv R R R R (Jd2 (cs:=[.slice al p1.Next.length ak,.slice am p1.Pairs.length aj]) I100 Z100 R R R<|haE f14.cells)<|Ob h λx16 hx16 h=>?_
 have f15:=g1_0.stp (T3 S3 S7 S11) R R
 refine Jh R R R C117 (jH (κ:=Mk K10) (p0:=p0) (p1:=p1) (Ji3 f15) (Ji3<|g1_1.stp (T3 S3 S7 S11) R R) hx16) ?_
 rintro _ w17 ⟨k18,rfl,e19⟩
 obtain⟨K20,S21,m22⟩:=Ji e19 5 R
 refine Tv<|Jn 2 R<|Ob h λp26 h hK24=>Ju1 [(5,2),(6,2),(7,1),(8,2),(9,2),(10,1),(11,2),(12,2)] [(13,2),(14,2),(15,1),(16,1),(17,2),(18,1),(19,2),(20,2)] (λL w'=>L=[(2,vi p2),(3,vi p3),(4,vi p4),(5,.pointer (some ⟨b5,0,none⟩)),(6,.pointer (some ⟨b6,0,none⟩)),(11,.slice ai ([]:List Int).length ad),(26,.bool p26)]/\∃κ',Stp [] K20 w17 κ' w') tv ?_ ?_
 revert h
 cases ht25:(!x16)
 refine JF λh=>Jn 1 R<|Jd3 R U100 R Z26<|Jb3 R I26 ((f14.stp S21 R R).ld 0 R R)<|Jn3 R U26 R R<|Jn 1 R<|Ob h λx24 hx24 h=>Jh R R R C57 (cD (κ:=Mk K20) hx24) ?_
 rintro _ w27 ⟨k28,rfl,e29⟩
 obtain⟨K30,S31,m32⟩:=Ji e29 7 R
 refine Tv<|Jn 2 R ?_
 cases h
 exact Jv1 _ tv ⟨R,_,S31.wk R⟩<|KM R
 refine JT λh=>Jn 2 R<|Jd1 R R R R<|Jn 2 R<|Jd1 R R R R<|Jn 2 R ?_
 cases h
 exact Jv1 _ tv ⟨R,_,Jj3⟩<|KM R
 rintro _ w34 _ ⟨rfl,K35,S36⟩
 have h:=hK24
 refine Jn 1 R<|Ob h λp34 h hK37=>Ju1 [(14,2),(15,1),(16,1),(17,2),(18,1),(19,2),(20,2)] [] (λL w'=>L=[(2,vi p2),(3,vi p3),(4,vi p4),(5,.pointer (some ⟨b5,0,none⟩)),(6,.pointer (some ⟨b6,0,none⟩)),(11,.slice ai ([]:List Int).length ad),(34,.bool p34)]/\∃κ',Stp [] K35 w34 κ' w') tv ?_ ?_
 revert h
 cases ht38:p26
 refine JF λh=>Jn 1 R<|Jl tv R R R R (Jd2 (cs:=[vi p0.In,vi p0.Out]) I25 Z25 R R R<|haE (f13.stp (S21.tr S36) R R).cells)<|Ob h λx30 hx30 h=>Jh R R R C72 (gV (κ:=Mk K35) (p0:=p0) hx30) ?_
 rintro _ w40 ⟨k41,rfl,e42⟩
 obtain⟨K43,S44,m45⟩:=Ji e42 7 R
 refine Tv<|Jn 1 R<|Ob h λx32 hx32 h=>Jh R R R C57 (cD (κ:=Mk K43) hx32) ?_
 rintro _ w47 ⟨k48,rfl,e49⟩
 obtain⟨K50,S51,m52⟩:=Ji e49 9 R
 refine Tv<|Jn 2 R ?_
 cases h
 exact Jv1 _ tv ⟨R,_,(S44.tr S51).wk R⟩<|KM R
 refine JT λh=>Jn 1 R<|Jd1 R R R R<|Jd1 R R R R<|Jn 1 R<|Jd1 R R R R<|Jn 2 R ?_
 cases h
 exact Jv1 _ tv ⟨R,_,Jj3⟩<|KM R
 rintro _ w54 _ ⟨rfl,K55,S56⟩
 have h:=hK37
 refine Jd ?_
 revert h
 cases ht57:p34
 refine JF λh=>Jy R<|Js<|Jp<|Jq<|Je3 R<|Ob h λq2 hq62 hK61=>?_
 clear h
 refine Jx1 (λL w'=>∃κ',∃s3:(List Int)×Int,∃ah ac,L=[(11,.slice ah s3.1.length ac)]/\Stp [4] K55 w54 κ' w'/\Oc E6 2 κ' w' 4 ah ac s3.1/\q2=xe s3) ?_ ?_
 refine Jv<|Jy1 (λk L w'=>∃κ',∃s1:(List Int)×Int,∃aa ab,L=[(2,vi p2),(3,vi p3),(4,vi p4),(5,.pointer (some ⟨b5,0,none⟩)),(6,.pointer (some ⟨b6,0,none⟩)),(11,.slice aa s1.1.length ab),(12,vi s1.2)]/\Stp [4] K55 w54 κ' w'/\Oc E6 2 κ' w' 4 aa ab s1.1/\bZ (fx p0 p1 p2 p3 p4) k s1=some q2) ⟨_,_,⟨K55,((([]:List Int):(List Int)),(0:Int)),ai,ad,R,Jj3,(f12.stp (T3 S21 S36 S56) R R),hq62⟩,(KM R)⟩ ?_
 rintro k _ w67 ⟨K68,s1,aa,ab,rfl,S69,f70,h⟩
 rcases k with _ | k
 cases h
 obtain⟨o60,h,hk72⟩:=BI h;unfold fx at h
 refine Jq<|Jg3 [2,2,1,1,2] 1 R<|Jd3 R U25 R Z2 ?_
 have f73:=f13.stp (T4 S21 S36 S56 S69) R R
 refine Jb3 R I2 (f73.ld 1 R R)<|Ob h λx39 hx39 h=>Jh R R R C59 (de (κ:=Mk K68) hx39) ?_
 rintro _ w74 ⟨k75,rfl,e76⟩
 obtain⟨K77,S78,m79⟩:=Ji e76 7 R
 refine Tv<|Jb 1 R ?_
 revert h
 cases ht81:decide (s1.2<x39)
 refine JF λh=>Jy R<|Jc1<|Jt<|Jt ?_
 cases h
 have h:=hk72
 refine Jb1 ?_
 cases h
 exact Jw1 _ ⟨K77,(s1.1,s1.2),aa,ab,R,(S69.tr S78).wk R,(f70.stp S78 R R),R⟩<|KM R
 refine JT λh=>Jx R<|Js<|Jp<|Jq<|Jv<|Jq<|Js1 (κ:=K77) [0,2,3] none [(0,2),(2,2),(6,2),(7,2),(11,2),(1,0),(3,2),(4,0),(5,0),(8,1),(9,2),(10,0),(12,2)] [] (by kernel_rfl) (by kernel_rfl) λw83 S82=>Jd3 R U100 R Z26<|Jn 4 R<|Jg R (Jc2 I26 R R<|hvC ((f14.stp (T6 S21 S36 S56 S69 S78 S82) R R).ld 0 R R) R)<|Ob h λx46 hx46 h=>Jc3 R f15 hx46 U26 Z29 ?_
 obtain⟨ax46,ux46,f86,hl87⟩:=(f15.stp (T6 S21 S36 S56 S69 S78 S82) R R).gSl hx46
 refine Jg R (Jc2 I29 R R<|hvC hl87 R)<|Jg R (Jd2 (cs:=[vi p0.In,vi p0.Out]) I25 Z25 R R R<|haC (f73.stp (S78.tr S82) R R).cells R)<|Ob h λx51 hx51 h=>Jh R R R C55 (mI (κ:=Mk K77) (p0:=p0) hx51) ?_
 rintro _ w89 ⟨k90,rfl,e91⟩
 obtain⟨K92,S93,m94⟩:=Ji e91 9 R
 refine⟨(S93.cl R),Ob h λx52 hx52 h=>Jc3 R f86 hx52 U29 Z2<|Jg R (Jc2 I2 R R<|hvC (f86.gInt hx52) R)<|Jn 1 R<|Jt1<|Jd<|Ob h λq4 h hK96=>Jx1 (λL w'=>∃κ' ae af,L=[(2,vi p2),(3,vi p3),(4,vi p4),(5,.pointer (some ⟨b5,0,none⟩)),(6,.pointer (some ⟨b6,0,none⟩)),(11,.slice ae q4.length af),(12,vi s1.2)]/\Stp [4] K92 w89 κ' w'/\Oc E6 2 κ' w' 4 ae af q4) ?_ ?_⟩
 revert h
 cases ht101:(x52==p4)
 refine JF λh=>Jy R<|Js ?_
 cases h
 exact Jw1 _ ⟨K92,aa,ab,R,Jj3,(f70.stp (T3 S78 S82 S93) R R)⟩<|KM R
 refine JT λh=>Jx R<|Jh3 [2,2,1,1,2] 2 R<|Jn1 (κ:=K92) (E:=E6) 11 [] (parts:=[(0,.tmp 57)]) (cells:=[vi s1.2]) (xs:=([s1.2]:List Int)) R R R R R R Y29 bG R R R R R R R R R R ⟨[vi s1.2],[],Zl K92 w89 [],Zl K92 w89 [],R,Zl.sp (l1:=[]) (l2:=[]) R,Zl.sr (l1:=[]) (l2:=[]),R,R⟩ λaq ap w102 K103 S104 f105=>Tv<|Ob h λx59 hx59 h=>Jm1 (κ:=K103) (E:=E6) 4 [] R R R R R R R R R Y29 bG R R R R (f70.stp (T4 S78 S82 S93 S104) R R) (Sl.srcP (bT _) f105.rdc) bK hx59 R λan ao w107 K108 S109 f110=>Tv<|Jc 1 R ?_
 cases h
 exact Jw1 _ ⟨K108,an,ao,R,(S104.tr S109).wk R,f110⟩<|KM R
 rintro _ w97 ⟨K98,ae,af,rfl,S99,f100⟩
 have h:=hK96
 refine Jz<|Jp<|Jf3 R ?_
 cases h
 exact Jz1 λa ha=>⟨k,_,Ja3 _,⟨K98,(q4,((IntKind.i64.wrap<|s1.2+1):Int)),ae,af,R,(T5 S69 S78 S82 S93 S99).wk R,f100,hk72⟩,(ha.mm R)⟩
 rintro _ w63 ⟨K64,s3,ah,ac,rfl,S65,f66,rfl⟩
 have h:=yI hK61
 refine Jp<|Je3 R<|Ju<|Ja2 (l:=[.tmp 10]) V146 (Jp2 R R) R ?_
 cases h
 exact⟨(λb=>ren [(4,2)]<|K64 b),ah,ac,R,((hE.stp (T7 S3 S7 S11 S21 S36 S56 S65) R R).map (ren [(4,2)]) R R),(f66.map (ren [(4,2)]) R R)⟩
 refine JT λh=>Jx R<|Je3 R<|Ju<|Jw<|Ja2 (l:=[.tmp 10]) V146 (Jp2 R R) R ?_
 cases h
 exact⟨(λb=>ren [(4,2)]<|K55 b),ai,ad,R,((hE.stp (T6 S3 S7 S11 S21 S36 S56) R R).map (ren [(4,2)]) R R),((f12.stp (T3 S21 S36 S56) R R).map (ren [(4,2)]) R R)⟩
theorem pp {p0:Sig}{a1 u1}{p1:(List Clause)}(g1:Rd Clause.rp κ w 0 a1 u1 p1){r:Det×Bool}(h:ee p0 p1=some r):Ret Tryz.prog 77 [.agg #[vi p0.In,vi p0.Out],.slice a1 p1.length u1] w (λv w'=>∃(κ':Col) (ra0:Option Addr) (ru0:Nat) (ra1:Option Addr) (ru1:Nat),v= .tuple #[.agg #[.slice ra0 r.1.Next.length ru0,.slice ra1 r.1.Pairs.length ru1],.bool r.2]/\Ent κ w κ' w'/\Oc (Ep.own E6 2) 29 κ' w' 2 ra0 ru0 r.1.Next/\Oc Pair.ep154 154 κ' w' 3 ra1 ru1 r.1.Pairs):=by
 unfold ee at h
 refine Jk3 κ F77 R N77 R λhE=>Je [1,1,2] R<|Jf1 (κ:=κ) 2 R R R R R R R λb2 w1 K2 S3 f4=>Tv<|Jg1 (κ:=K2) 3 R R R R R X100 R λb4 w5 K6 S7 f8=>Tv<|Jb 1 R<|Jq<|Je [1,1,2,2,1,2,1,2,2] R ?_
 have f9:=f4.stp S7 R R
 refine Jl tv R R R R (Jd2 (cs:=[vi p0.In,vi p0.Out]) I25 Z25 R R R<|haE f9.cells)<|Ob h λx12 hx12 h=>Jh R R R C48 (pN (κ:=Mk K6) (p0:=p0) hx12) ?_
 rintro _ w10 ⟨k11,rfl,e12⟩
 obtain⟨K13,S14,m15⟩:=Ji e12 4 R
 refine Tv<|Jn 2 R<|Ob h λp19 h hK17=>Ju1 [(4,1),(5,2),(6,1),(7,2),(8,2)] [] (λL w'=>L=[(1,.slice a1 p1.length u1),(2,.pointer (some ⟨b2,0,none⟩)),(4,.pointer (some ⟨b4,0,none⟩)),(19,.bool p19)]/\∃κ',Stp [] K13 w10 κ' w') tv ?_ ?_
 revert h
 cases ht18:(!x12)
 refine JF λh=>Jl tv R R R R (Jd2 (cs:=[vi p0.In,vi p0.Out]) I25 Z25 R R R<|haE (f9.stp S14 R R).cells)<|Jn 1 R<|Ob h λx17 hx17 h=>Jh R R R C129 (ox (κ:=Mk K13) (p0:=p0) (Ji3<|g1.stp (T3 S3 S7 S14) R R) hx17) ?_
 rintro _ w21 ⟨k22,rfl,e23⟩
 obtain⟨K24,S25,m26⟩:=Ji e23 6 R
 refine Tv<|Jn 2 R ?_
 cases h
 exact Jv1 _ tv ⟨R,_,S25.wk R⟩<|KM R
 refine JT λh=>Jd1 R R R R<|Jn 1 R<|Jd1 R R R R<|Jn 2 R ?_
 cases h
 exact Jv1 _ tv ⟨R,_,Jj3⟩<|KM R
 rintro _ w28 _ ⟨rfl,K29,S30⟩
 have h:=hK17
 refine Jd ?_
 revert h
 cases ht31:p19
 refine JF λh=>Jy R<|Js<|Jp<|Je [1,1,1,1,2,1,1] R ?_
 have f37:=f9.stp (S14.tr S30) R R
 refine Jl tv R R R R (Jd2 (cs:=[vi p0.In,vi p0.Out]) I25 Z25 R R R<|haE f37.cells)<|Ob h λx22 hx22 h=>Jh R R R C130 (fb (κ:=Mk K29) (p0:=p0) hx22) ?_
 rintro _ w38 ⟨k39,rfl,e40⟩
 obtain⟨K41,S42,m43⟩:=Ji e40 6 R
 refine Tv<|Ob h λx23 hx23 h=>Jl1 (κ:=K41) (E:=E6) (z:=(0:Int)) 8 R R R R R R R Y29 bG R R R R R (λ_ _ _=>R) (Ju2 hx23) λaw av w45 K46 S47 f48=>Tv<|Jn1 (κ:=K46) (E:=(Ep.own E6 2)) 9 [8] (parts:=[(0,.tmp 23)]) (cells:=[.slice aw x23.length av]) (xs:=([x23]:List (List Int))) R R R R R R Y26 bN R R R R R R R R R R ⟨[.slice aw x23.length av],[],Zl K46 w45 [8],Zl K46 w45 [],R,Zl.sp (l1:=[8]) (l2:=[]) R,Zl.sr (l1:=[8]) (l2:=[]),⟨_,_,R,f48⟩,R⟩ λau ar w49 K50 S51 f52=>Tv<|Jf R (bJ (parts:=[(0,.tmp 24)]) (cells:=[.slice au ([x23]:List (List Int)).length ar,.slice none 0 0]) R R (by kernel_rfl))<|Jg1 (κ:=K50) 10 R R R R R X100 R λb6 w53 K54 S55 f56=>Tv<|Jj1 (κ:=K54) 10 (vc:=[.slice au ([x23]:List (List Int)).length ar,.slice none 0 0]) R R R R R R R Z100 R R f56 R λw57 S58 f59=>Tv<|Jd<|Jq<|Jg3 [2,2,2] 1 R<|Jn3 R U49 R R<|Jb 1 R ?_
 have hN60:(p1.length:Int)<=9223372036854775807:=g1.len_le
 refine Ob h λq2 hq62 hK61=>?_
 clear h
 refine Jx1 (λL w'=>∃κ',∃s3:(List<|List Int)×(List Pair),∃ah al aj ak,L=[(4,.pointer (some ⟨b4,0,none⟩)),(6,.pointer (some ⟨b6,0,none⟩))]/\Stp [10,12,13,14,17,19,20,21] K54 w57 κ' w'/\Oc (Ep.own E6 2) 29 κ' w' 9 ah al s3.1/\Oc Pair.ep154 154 κ' w' 11 aj ak s3.2/\Bc κ' w' 10 b6 100 [.slice ah s3.1.length al,.slice aj s3.2.length ak]/\q2=xe s3) ?_ ?_
 refine Jv<|Jy1 (λk L w'=>∃κ' v28,∃s1:(List<|List Int)×(List Pair),∃ap an ao aq,L=[(2,.pointer (some ⟨b2,0,none⟩)),(4,.pointer (some ⟨b4,0,none⟩)),(6,.pointer (some ⟨b6,0,none⟩)),(26,.slice a1 p1.length u1),(27,vi (p1.length:Int)),(28,vi v28)]/\Stp [10,12,13,14,17,19,20,21] K54 w57 κ' w'/\Oc (Ep.own E6 2) 29 κ' w' 9 ap an s1.1/\Oc Pair.ep154 154 κ' w' 11 ao aq s1.2/\Bc κ' w' 10 b6 100 [.slice ap s1.1.length an,.slice ao s1.2.length aq]/\0<=v28/\xh ((p1.length:Int)-v28)=k/\cntM (dU p0 p1) k v28 s1=some q2) ⟨_,_,⟨K54,0,((([x23]:List (List Int)):(List<|List Int)),(([]:List Pair):(List Pair))),au,ar,none,0,R,Jj3,(f52.stp (S55.tr S58) R R),Ow.nil,f59,(by decide),(by simp),hq62⟩,(KM R)⟩ ?_
 rintro k _ w69 ⟨K70,v28,s1,ap,an,ao,aq,rfl,S71,f72,f73,f74,hj60,hJ60,h⟩
 rcases k with _ | k
 have hk76:=h;obtain⟨o60,h⟩:=bP (xe (Sum.inl s1):(Det×Bool)⊕(((List (List Int))×(List Pair))⊕((List (List Int))×(List Pair))))
 have hc60:decide (v28<(p1.length:Int))=false:=Jo2 (by omega)
 refine Je3 R<|Jq<|Jw2 R hc60<|Jc1<|Jt<|Jt ?_
 cases h
 have h:=hk76
 refine Jb1 ?_
 cases h
 exact Jw1 _ ⟨K70,(s1.1,s1.2),ap,an,ao,aq,R,S71.wk R,f72,f73,f74,R⟩<|KM R
 obtain⟨o60,h,hk76⟩:=BI h;unfold dU at h
 have hc60:decide (v28<(p1.length:Int))=true:=Jn2 (by omega)
 refine Je3 R<|Jq<|Jv2 R hc60<|Js<|Jp<|Jq<|Jv<|Je [2,1,1,1] R<|Ob h λx30 hx30 h=>Jc3 R g1 hx30 U49 Z119 ?_
 obtain⟨cse78,hre78,hle78⟩:=((g1.stp (T10 S3 S7 S14 S30 S42 S47 S51 S55 S58 S71) R R)).gSt hx30
 obtain⟨ae78_0,ue78_0,ae78_1,ue78_1,rfl,fe78_0,fe78_1⟩:=Clause.un hre78
 refine Jl tv R R R R (Jd2 (cs:=[vi x30.Kind,.slice ae78_0 x30.A.length ue78_0,.slice ae78_1 x30.B.length ue78_1]) I119 Z119 R R R<|haE hle78)<|Jg1 (κ:=K70) 12 R R R R R X119 R λb8 w79 K80 S81 f82=>Tv<|Jj1 (κ:=K80) 12 (vc:=[vi x30.Kind,.slice ae78_0 x30.A.length ue78_0,.slice ae78_1 x30.B.length ue78_1]) R R R R R R R Z119 R R f82 R λw83 S84 f85=>Tv<|Jd<|Jq<|Ob h λx36 hx36 h=>Ob h λx37 hx37 h=>Jx1 (λL w'=>∃κ' b9 am ae af ai,L=[(2,.pointer (some ⟨b2,0,none⟩)),(4,.pointer (some ⟨b4,0,none⟩)),(6,.pointer (some ⟨b6,0,none⟩)),(9,.pointer (some ⟨b9,0,none⟩)),(10,.bool x37.2),(26,.slice a1 p1.length u1),(27,vi (p1.length:Int)),(28,vi v28)]/\Stp [13,17,19,20,21] K80 w83 κ' w'/\Oc (Ep.own E6 2) 29 κ' w' 13 am ae x37.1.Next/\Oc Pair.ep154 154 κ' w' 14 af ai x37.1.Pairs/\Bc κ' w' 15 b9 100 [.slice am x37.1.Next.length ae,.slice af x37.1.Pairs.length ai]) ?_ ?_
 refine WC.rxt (κ:=K80) [2,10,12] none (by kernel_rfl) λw93 S94=>Jq1 (fuel:=8) [(0,0),(1,0),(2,0)] (by kernel_rfl) (by kernel_rfl) R<|Jg R (Jd2 (cs:=[.slice ap s1.1.length an,.slice ao s1.2.length aq]) I100 Z100 R R R<|haC (f74.stp (T3 S81 S84 S94) R R).cells R)<|Jg R (Jd2 (cs:=[vi p0.In,vi p0.Out]) I25 Z25 R R R<|haC (f37.stp (T9 S42 S47 S51 S55 S58 S71 S81 S84 S94) R R).cells R)<|Jg R (Jd2 (cs:=[vi x30.Kind,.slice ae78_0 x30.A.length ue78_0,.slice ae78_1 x30.B.length ue78_1]) I119 Z119 R R R<|haC (f85.stp S94 R R).cells R)<|Jp1<|WA.fork2 (fuel:=7) 3 8 (by kernel_rfl) R ?_ ?_
 refine Jh R R R C132 (lQ (κ:=Mk K80) (p0:=p0) (p1:=x30) (Ji3<|fe78_0.stp (T3 S81 S84 S94) R R) (Ji3<|fe78_1.stp (T3 S81 S84 S94) R R) hx36) ?_
 rintro _ w100 ⟨k101,ax,az,ay,aA,rfl,e102,f103,f104⟩
 obtain⟨K105,S106,m107⟩:=Ji e102 13 R
 refine⟨(S106.cl R),?_⟩
 have f109:=f103.mx (cm (bI _) _) m107 R (R:13+2=15)
 have f110:=f104.mx Pair.no154 m107 R (R:13+3=16)
 refine Jp1<|WA.fork2 (fuel:=6) 4 8 (by kernel_rfl) R ?_ ?_
 have S001:=(T4 S81 S84 S94 S106)
 refine Jh R R R C131 (j6 (κ:=Mk K105) (p0:=(⟨s1.1,s1.2⟩:Det)) (p1:=x36) (Ji3 (f72.stp S001 R R).rdc) (Ji3 (f73.stp S001 R R).rdc) (Ji3 f109.rdc) (Ji3 f110.rdc) hx37) ?_
 rintro _ w113 ⟨k114,ad,ab,aa,ac,rfl,e115,f116,f117⟩
 obtain⟨K118,S119,m120⟩:=Ji e115 17 R
 have S002:=(S106.tr S119)
 exact⟨(S002.cl R),Jp1<|Jq1 (fuel:=0) [(5,2),(6,2),(7,2),(8,1),(9,1),(10,2)] (by kernel_rfl) (by kernel_rfl) R<|Jn 3 R<|Jg1 (κ:=K118) 21 R R R R R X100 R λb9 w124 K125 S126 f127=>⟨((S002.tr S126).cl R),Jj1 (κ:=K125) 21 (vc:=[.slice ad x37.1.Next.length ab,.slice aa x37.1.Pairs.length ac]) R R R R R R R Z100 R R f127 R λw128 S129 f130=>⟨((T3 S002 S126 S129).cl R),Jn 1 R<|Jp1<|Jr1 [] (by kernel_rfl) (by kernel_rfl) R<|Jo<|Jw1 _ ⟨(λb=>ren [(19,13),(20,14),(21,15)]<|K125 b),b9,ad,ab,aa,ac,R,(Jy2 ((T5 S94 S106 S119 S126 S129).wk R) [(19,13),(20,14),(21,15)] R),(((f116.mx (cm (bI _) _) m120 R (R:17+2=19)).stp (S126.tr S129) R R).map (ren [(19,13),(20,14),(21,15)]) R R),(((f117.mx Pair.no154 m120 R (R:17+3=20)).stp (S126.tr S129) R R).map (ren [(19,13),(20,14),(21,15)]) R R),(f130.map (ren [(19,13),(20,14),(21,15)]) R R)⟩<|KM R⟩⟩⟩
 have S003:=(T4 S81 S84 S94 S106)
 refine Jg1 (κ:=K105) 17 R R R R R X100 R λb9 w133 K134 S135 f136=>⟨((S106.tr S135).cl R),Jp1<|Jq1 (fuel:=0) [(4,1),(5,2),(6,2),(7,2),(9,1),(10,2)] (by kernel_rfl) (by kernel_rfl) R<|Jh R R R C131 (j6 (κ:=Mk K134) (p0:=(⟨s1.1,s1.2⟩:Det)) (p1:=x36) (Ji3 (f72.stp (S003.tr S135) R R).rdc) (Ji3 (f73.stp (S003.tr S135) R R).rdc) (Ji3 (f109.stp S135 R R).rdc) (Ji3 (f110.stp S135 R R).rdc) hx37) ?_⟩
 rintro _ w141 ⟨k142,ad,ab,aa,ac,rfl,e143,f144,f145⟩
 obtain⟨K146,S147,m148⟩:=Ji e143 18 R
 have S004:=(T3 S106 S135 S147)
 exact⟨(S004.cl R),Jn 3 R<|Jj1 (κ:=K146) 17 (vc:=[.slice ad x37.1.Next.length ab,.slice aa x37.1.Pairs.length ac]) R R R R R R R Z100 R R (f136.stp S147 R R) R λw153 S154 f155=>⟨((S004.tr S154).cl R),Jn 1 R<|Jp1<|Jr1 [] (by kernel_rfl) (by kernel_rfl) R<|Jo<|Jw1 _ ⟨(λb=>ren [(20,13),(21,14),(17,15)]<|K146 b),b9,ad,ab,aa,ac,R,(Jy2 ((T5 S94 S106 S135 S147 S154).wk R) [(20,13),(21,14),(17,15)] R),(((f144.mx (cm (bI _) _) m148 R (R:18+2=20)).stp S154 R R).map (ren [(20,13),(21,14),(17,15)]) R R),(((f145.mx Pair.no154 m148 R (R:18+3=21)).stp S154 R R).map (ren [(20,13),(21,14),(17,15)]) R R),(f155.map (ren [(20,13),(21,14),(17,15)]) R R)⟩<|KM R⟩⟩
 refine Jg1 (κ:=K80) 13 R R R R R X100 R λb9 w158 K159 S160 f161=>⟨(S160.cl R),Jp1<|Jq1 (fuel:=0) [(3,1),(4,1),(5,2),(6,2),(7,2),(9,1),(10,2)] (by kernel_rfl) (by kernel_rfl) R<|Jh R R R C132 (lQ (κ:=Mk K159) (p0:=p0) (p1:=x30) (Ji3<|fe78_0.stp (T4 S81 S84 S94 S160) R R) (Ji3<|fe78_1.stp (T4 S81 S84 S94 S160) R R) hx36) ?_⟩
 rintro _ w164 ⟨k165,ax,az,ay,aA,rfl,e166,f167,f168⟩
 obtain⟨K169,S170,m171⟩:=Ji e166 14 R
 have S005:=(T5 S81 S84 S94 S160 S170)
 refine⟨((S160.tr S170).cl R),Jh R R R C131 (j6 (κ:=Mk K169) (p0:=(⟨s1.1,s1.2⟩:Det)) (p1:=x36) (Ji3 (f72.stp S005 R R).rdc) (Ji3 (f73.stp S005 R R).rdc) (Ji3 (f167.mx (cm (bI _) _) m171 R (R:14+2=16)).rdc) (Ji3 (f168.mx Pair.no154 m171 R (R:14+3=17)).rdc) hx37) ?_⟩
 rintro _ w177 ⟨k178,ad,ab,aa,ac,rfl,e179,f180,f181⟩
 obtain⟨K182,S183,m184⟩:=Ji e179 18 R
 have S006:=(T3 S160 S170 S183)
 exact⟨(S006.cl R),Jn 3 R<|Jj1 (κ:=K182) 13 (vc:=[.slice ad x37.1.Next.length ab,.slice aa x37.1.Pairs.length ac]) R R R R R R R Z100 R R (f161.stp (S170.tr S183) R R) R λw189 S190 f191=>⟨((S006.tr S190).cl R),Jn 1 R<|Jp1<|Jr1 [] (by kernel_rfl) (by kernel_rfl) R<|Jo<|Jw1 _ ⟨(λb=>ren [(20,13),(21,14),(13,15)]<|K182 b),b9,ad,ab,aa,ac,R,(Jy2 ((T5 S94 S160 S170 S183 S190).wk R) [(20,13),(21,14),(13,15)] R),(((f180.mx (cm (bI _) _) m184 R (R:18+2=20)).stp S190 R R).map (ren [(20,13),(21,14),(13,15)]) R R),(((f181.mx Pair.no154 m184 R (R:18+3=21)).stp S190 R R).map (ren [(20,13),(21,14),(13,15)]) R R),(f191.map (ren [(20,13),(21,14),(13,15)]) R R)⟩<|KM R⟩⟩
 rintro _ w86 ⟨K87,b9,am,ae,af,ai,rfl,S88,f90,f91,f92⟩
 refine Jp<|Jq<|Je3 R ?_
 revert h
 cases ht194:(!x37.2)
 refine JF λh=>Jy R<|Js<|Jp<|Ja [1,1] R<|Jl tv R R R R (Jd2 (cs:=[.slice am x37.1.Next.length ae,.slice af x37.1.Pairs.length ai]) I100 Z100 R R R<|haE f92.cells)<|Jj1 (κ:=K87) 10 (vc:=[.slice am x37.1.Next.length ae,.slice af x37.1.Pairs.length ai]) R R R R R R R Z100 R R (f74.stp (T3 S81 S84 S88) R R) R λw201 S202 f203=>Tv<|Jo<|Jz<|Jp<|Jf3 R ?_
 have hw60:t0 .i64 (v28+1)=v28+1:=wr1 hj60 (Jm2 hc60) hN60
 rw[hw60]
 have hc60:=Jm2 hc60
 cases h
 exact Jz1 λa ha=>⟨k,_,Ja3 _,⟨(λb=>ren [(13,9),(14,11)]<|K87 b),v28+1,(x37.1.Next,x37.1.Pairs),am,ae,af,ai,R,(Jy2 ((T5 S71 S81 S84 S88 S202).wk R) [(13,9),(14,11)] R),((f90.stp S202 R R).map (ren [(13,9),(14,11)]) R R),((f91.stp S202 R R).map (ren [(13,9),(14,11)]) R R),(f203.map (ren [(13,9),(14,11)]) R R),by omega,by omega,hk76⟩,(ha.mm R)⟩
 refine JT λh=>Jx R<|Je [2,1,2] R<|Jf R (bJ (parts:=[]) (cells:=[.slice none 0 0,.slice none 0 0]) R R (by kernel_rfl))<|Jj1 (κ:=K87) 3 (vc:=[.slice none 0 0,.slice none 0 0]) R R R R R R R Z100 R R (f8.stp (T11 S14 S30 S42 S47 S51 S55 S58 S71 S81 S84 S88) R R) R λw196 S197 f198=>Tv<|Jb 1 R<|Ju<|Jw<|Ja1<|Jw<|Jw ?_
 cases h
 obtain rfl:=Option.some.inj hk76
 have h:=yL hK61
 refine Ja1<|Jq2<|Jw<|Ja2 (l:=[.cell 4 100,.tmp 5]) V77 (bL R f198 I100 Z100 R<|Jp2 R R) R ?_
 cases h
 exact⟨K87,none,0,none,0,R,(hE.stp (T14 S3 S7 S14 S30 S42 S47 S51 S55 S58 S71 S81 S84 S88 S197) R R),Ow.nil,Ow.nil⟩
 rintro _ w63 ⟨K64,s3,ah,al,aj,ak,rfl,S65,f66,f67,f68,rfl⟩
 have h:=yI hK61
 refine Jp<|Je [1,1,2] R<|Jl tv R R R R (Jd2 (cs:=[.slice ah s3.1.length al,.slice aj s3.2.length ak]) I100 Z100 R R R<|haE f68.cells)<|Jj1 (κ:=K64) 3 (vc:=[.slice ah s3.1.length al,.slice aj s3.2.length ak]) R R R R R R R Z100 R R (f8.stp (T8 S14 S30 S42 S47 S51 S55 S58 S65) R R) R λw207 S208 f209=>Tv<|Jb 1 R<|Ju<|Ja2 (l:=[.cell 4 100,.tmp 5]) V77 (bL R f209 I100 Z100 R<|Jp2 R R) R ?_
 cases h
 exact⟨(λb=>ren [(9,2),(11,3)]<|K64 b),ah,al,aj,ak,R,((hE.stp (T11 S3 S7 S14 S30 S42 S47 S51 S55 S58 S65 S208) R R).map (ren [(9,2),(11,3)]) R R),((f66.stp S208 R R).map (ren [(9,2),(11,3)]) R R),((f67.stp S208 R R).map (ren [(9,2),(11,3)]) R R)⟩
 refine JT λh=>Jx R<|Je [2,1,2] R<|Jf R (bJ (parts:=[]) (cells:=[.slice none 0 0,.slice none 0 0]) R R (by kernel_rfl))<|Jj1 (κ:=K29) 3 (vc:=[.slice none 0 0,.slice none 0 0]) R R R R R R R Z100 R R (f8.stp (S14.tr S30) R R) R λw33 S34 f35=>Tv<|Jb 1 R<|Ju<|Jw<|Ja2 (l:=[.cell 4 100,.tmp 5]) V77 (bL R f35 I100 Z100 R<|Jp2 R R) R ?_
 cases h
 exact⟨K29,none,0,none,0,R,(hE.stp (T5 S3 S7 S14 S30 S34) R R),Ow.nil,Ow.nil⟩
end Go.Proofs.YtpcjbkgbnoocaaaGreat
