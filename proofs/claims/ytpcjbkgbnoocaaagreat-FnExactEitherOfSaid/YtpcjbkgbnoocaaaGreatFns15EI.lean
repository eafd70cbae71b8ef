/- The walks, part 15. By program. -/
import Derived.Test.YtpcjbkgbnoocaaaGreatFns13EI
import Derived.Test.YtpcjbkgbnoocaaaGreatFns14EI
set_option linter.unusedVariables false
set_option linter.unusedSimpArgs false
open Go.IntKind renaming wrap → t5
open Sum renaming inr → t9
open Int renaming toNat → vH
namespace Go.Proofs.YtpcjbkgbnoocaaaGreat
open Go Go.Wk Go.Proofs
set_option maxRecDepth 100000
set_option maxHeartbeats 1000000
theorem jt {w:World}{κ:Col}{p0:Sig}{af ah ac ai}{p1:Det}{ae ad ab aa}{p2:Det}(g1_0:Rd (Rp.sl (Rp.int .i64)) κ w 0 af ah p1.Next) (g1_1:Rd Pair.rp κ w 0 ac ai p1.Pairs) (g2_0:Rd (Rp.sl (Rp.int .i64)) κ w 0 ae ad p2.Next) (g2_1:Rd Pair.rp κ w 0 ab aa p2.Pairs){r:Det×Bool}(h:g8 p0 p1 p2=some r):Ret Tryz.prog 115 [.agg #[vi p0.In,vi p0.Out],.agg #[.slice af p1.Next.length ah,.slice ac p1.Pairs.length ai],.agg #[.slice ae p2.Next.length ad,.slice ab p2.Pairs.length aa]] w (λv w'=>∃(κ':Col) (ra0:Option Addr) (ru0:Nat) (ra1:Option Addr) (ru1:Nat),v= .tuple #[.agg #[.slice ra0 r.1.Next.length ru0,.slice ra1 r.1.Pairs.length ru1],.bool r.2]/\Ent κ w κ' w'/\Oc (Ep.own E6 2) 29 κ' w' 2 ra0 ru0 r.1.Next/\Oc Pair.ep154 154 κ' w' 3 ra1 ru1 r.1.Pairs):=by
 unfold g8 at h
 refine Ret.enter F115 R N115 R ?_
 dsimp only[envOf]
 have hE:=Ent.refl κ w
 refine Je [1,1,1,1,2] R (Jf1 (κ:=κ) 2 R R R R R R R λb3 w1 K2 S3 f4=>⟨tv,Jf1 (κ:=K2) 3 R R R R R R R λb4 w5 K6 S7 f8=>⟨tv,Jf1 (κ:=K6) 4 R R R R R R R λb5 w9 K10 S11 f12=>⟨tv,Jg1 (κ:=K10) 5 R R R R R X100 R λb6 w13 K14 S15 f16=>⟨tv,Jb 1 R (Jq (Je [1,1,1,2,2,1,1,1,2,2,2,2,1,2,2,1,2,2,2,2] R ?_))⟩⟩⟩⟩)
 have f17:=f4.stp (S7.tr (S11.tr S15)) R R
 refine Jl tv R R R R (Jd2 (cs:=[vi p0.In,vi p0.Out]) I25 Z25 R R R (haE f17.cells)) ?_
 have f18:=f8.stp (S11.tr S15) R R
 refine Jl tv R R R R (Jd2 (cs:=[.slice af p1.Next.length ah,.slice ac p1.Pairs.length ai]) I100 Z100 R R R (haE f18.cells)) (Ob h λx10 hx10 h=>?_)
 have f19:=g1_0.stp (S3.tr (S7.tr (S11.tr S15))) R R
 have f20:=g1_1.stp (S3.tr (S7.tr (S11.tr S15))) R R
 refine Jh R R R C117 (kw (κ:=Mk K14) (p0:=p0) (p1:=p1) (Ji3 f19) (Ji3 f20) hx10) ?_
 rintro _ w21 ⟨k22,rfl,e23⟩
 obtain⟨K24,S25,m26⟩:=Ji e23 6 R
 refine⟨tv,Jn 2 R (Ob h λp17 h hK28=>Ju1 [(5,1),(6,1),(7,1),(8,2),(9,2)] [(10,2),(11,2),(12,1),(13,2),(14,2),(15,1),(16,2),(17,2),(18,2),(19,2)] (λL w'=>L=[(3,.pointer (some ⟨b3,0,none⟩)),(4,.pointer (some ⟨b4,0,none⟩)),(5,.pointer (some ⟨b5,0,none⟩)),(6,.pointer (some ⟨b6,0,none⟩)),(17,.bool p17)]/\∃κ',Stp [] K24 w21 κ' w') tv ?_ ?_)⟩
 revert h
 cases ht29:(!x10)
 have S001:=(S3.tr (S7.tr (S11.tr (S15.tr S25))))
 refine JF λh=>Jl tv R R R R (Jd2 (cs:=[vi p0.In,vi p0.Out]) I25 Z25 R R R (haE (f17.stp S25 R R).cells)) (Jl tv R R R R (Jd2 (cs:=[.slice ae p2.Next.length ad,.slice ab p2.Pairs.length aa]) I100 Z100 R R R (haE (f12.stp (S15.tr S25) R R).cells)) (Ob h λx15 hx15 h=>Jh R R R C117 (kw (κ:=Mk K24) (p0:=p0) (p1:=p2) (Ji3 (g2_0.stp S001 R R)) (Ji3 (g2_1.stp S001 R R)) hx15) ?_))
 rintro _ w34 ⟨k35,rfl,e36⟩
 obtain⟨K37,S38,m39⟩:=Ji e36 8 R
 refine⟨tv,Jn 2 R ?_⟩
 cases h
 exact Jv1 _ tv ⟨R,_,S38.wk R⟩ (KM R)
 refine JT λh=>Jd1 R R R R (Jd1 R R R R (Jd1 R R R R (Jn 2 R ?_)))
 cases h
 exact Jv1 _ tv ⟨R,_,Jj3⟩ (KM R)
 rintro _ w41 _ ⟨rfl,K42,S43⟩
 have h:=hK28
 refine Jn 1 R (Ob h λp27 h hK44=>Ju1 [(11,2),(12,1),(13,2),(14,2),(15,1),(16,2),(17,2),(18,2),(19,2)] [] (λL w'=>L=[(3,.pointer (some ⟨b3,0,none⟩)),(4,.pointer (some ⟨b4,0,none⟩)),(5,.pointer (some ⟨b5,0,none⟩)),(6,.pointer (some ⟨b6,0,none⟩)),(27,.bool p27)]/\∃κ',Stp [] K42 w41 κ' w') tv ?_ ?_)
 revert h
 cases ht45:p17
 refine JF λh=>Jd3 R U100 R Z98 (Jb3 R I98 ((f18.stp (S25.tr S43) R R).ld 1 R R) (Jf R (Je2 U98 R R) (Jd3 R U100 R Z98 (Jb3 R I98 ((f12.stp (S15.tr (S25.tr S43)) R R).ld 1 R R) (Jf R (Je2 U98 R R) (Jn 3 R ?_))))))
 cases h
 exact Jv1 _ tv ⟨R,_,Jj3⟩ (KM R)
 refine JT λh=>Jn 1 R (Jd1 R R R R (Jn 2 R (Jd1 R R R R (Jn 4 R ?_))))
 cases h
 exact Jv1 _ tv ⟨R,_,Jj3⟩ (KM R)
 rintro _ w48 _ ⟨rfl,K49,S50⟩
 have h:=hK44
 refine Jd ?_
 revert h
 cases ht51:p27
 refine JF λh=>Jy R (Js (Jp (Jq (Js1 (κ:=K49) [2,3,4] none [(0,0),(1,0),(2,0),(3,1),(4,1),(5,2),(6,2),(7,1),(8,2)] [] (by kernel_rfl) (by kernel_rfl) λw58 S57=>Jg R (Jd2 (cs:=[.slice af p1.Next.length ah,.slice ac p1.Pairs.length ai]) I100 Z100 R R R (haC (f18.stp (S25.tr (S43.tr (S50.tr S57))) R R).cells R)) (Jg R (Jd2 (cs:=[.slice ae p2.Next.length ad,.slice ab p2.Pairs.length aa]) I100 Z100 R R R (haC (f12.stp (S15.tr (S25.tr (S43.tr (S50.tr S57)))) R R).cells R)) (Jg R (Jd2 (cs:=[vi p0.In,vi p0.Out]) I25 Z25 R R R (haC (f17.stp (S25.tr (S43.tr (S50.tr S57))) R R).cells R)) (Ob h λx32 hx32 h=>Jh R R R C58 (eI (κ:=Mk K49) (p0:=p0) hx32) ?_)))))))
 rintro _ w62 ⟨k63,rfl,e64⟩
 obtain⟨K65,S66,m67⟩:=Ji e64 8 R
 have S002:=(S3.tr (S7.tr (S11.tr (S15.tr (S25.tr (S43.tr (S50.tr (S57.tr S66))))))))
 have S003:=(S25.tr (S43.tr (S50.tr (S57.tr S66))))
 refine⟨(S66.cl R),Ob h λx33 hx33 h=>Jh R R R C164 (om (κ:=Mk K65) (p0:=p1) (p1:=p2) (Ji3 (f19.stp S003 R R)) (Ji3 (f20.stp S003 R R)) (Ji3 (g2_0.stp S002 R R)) (Ji3 (g2_1.stp S002 R R)) hx33) ?_⟩
 rintro _ w73 ⟨k74,aj,am,al,ak,rfl,e75,f76,f77⟩
 obtain⟨K78,S79,m80⟩:=Ji e75 10 R
 refine⟨((S66.tr S79).cl R),Jn 2 R (Jj1 (κ:=K78) 5 (vc:=[.slice aj x33.1.Next.length am,.slice al x33.1.Pairs.length ak]) R R R R R R R Z100 R R (f16.stp (S25.tr (S43.tr (S50.tr (S57.tr (S66.tr S79))))) R R) R λw85 S86 f87=>⟨((S66.tr (S79.tr S86)).cl R),Jn 1 R (Jt1 (Jd (Ju (Ja2 (l:=[.cell 6 100,.tmp 7]) V115 (bL R f87 I100 Z100 R (Jp2 R R)) R ?_))))⟩)⟩
 cases h
 exact⟨(λb=>ren [(12,2),(13,3)] (K78 b)),aj,am,al,ak,R,((hE.stp (S3.tr (S7.tr (S11.tr (S15.tr (S25.tr (S43.tr (S50.tr (S57.tr (S66.tr (S79.tr S86)))))))))) R R).map (ren [(12,2),(13,3)]) R R),(((f76.mx (co (bH _) _) m80 R (R:10+2=12)).stp S86 R R).map (ren [(12,2),(13,3)]) R R),(((f77.mx Pair.no154 m80 R (R:10+3=13)).stp S86 R R).map (ren [(12,2),(13,3)]) R R)⟩
 refine JT λh=>Jx R (Je [2,1,2] R (Jf R (bI (parts:=[]) (cells:=[.slice none 0 0,.slice none 0 0]) R R (by kernel_rfl)) (Jj1 (κ:=K49) 5 (vc:=[.slice none 0 0,.slice none 0 0]) R R R R R R R Z100 R R (f16.stp (S25.tr (S43.tr S50)) R R) R λw53 S54 f55=>⟨tv,Jb 1 R (Ju (Jw (Ja2 (l:=[.cell 6 100,.tmp 7]) V115 (bL R f55 I100 Z100 R (Jp2 R R)) R ?_)))⟩)))
 cases h
 exact⟨K49,none,0,none,0,R,(hE.stp (S3.tr (S7.tr (S11.tr (S15.tr (S25.tr (S43.tr (S50.tr S54))))))) R R),Ow.nil,Ow.nil⟩
theorem kH {w:World}{κ:Col}{p0:Sig}{aw aA aH aB}{p1:Det}(g1_0:Rd (Rp.sl (Rp.int .i64)) κ w 0 aw aA p1.Next) (g1_1:Rd Pair.rp κ w 0 aH aB p1.Pairs){r:Arena×(List Pair)×Bool}(h:cT p0 p1=some r):Ret Tryz.prog 69 [.agg #[vi p0.In,vi p0.Out],.agg #[.slice aw p1.Next.length aA,.slice aH p1.Pairs.length aB]] w (λv w'=>∃(κ':Col) (ra0:Option Addr) (ru0:Nat) (ra1:Option Addr) (ru1:Nat) (ra2:Option Addr) (ru2:Nat),v= .tuple #[.agg #[.slice ra0 r.1.Owner.length ru0,.slice ra1 r.1.Next.length ru1],.slice ra2 r.2.1.length ru2,.bool r.2.2]/\Ent κ w κ' w'/\Oc E6 2 κ' w' 2 ra0 ru0 r.1.Owner/\Oc (Ep.fz (Rp.sl (Rp.int .i64))) 29 κ' w' 3 ra1 ru1 r.1.Next/\Oc Pair.ep154 154 κ' w' 4 ra2 ru2 r.2.1):=by
 unfold cT at h
 refine Ret.enter F69 R N69 R ?_
 dsimp only[envOf]
 have hE:=Ent.refl κ w
 refine Je [1,1,1,2,2] R (Jf1 (κ:=κ) 2 R R R R R R R λb2 w1 K2 S3 f4=>⟨tv,Jf1 (κ:=K2) 3 R R R R R R R λb3 w5 K6 S7 f8=>⟨tv,Jg1 (κ:=K6) 4 R R R R R X104 R λb4 w9 K10 S11 f12=>⟨tv,Jb 2 R (Jq (Je [1,1,1,2] R ?_))⟩⟩⟩)
 have f13:=f4.stp (S7.tr S11) R R
 refine Jl tv R R R R (Jd2 (cs:=[vi p0.In,vi p0.Out]) I25 Z25 R R R (haE f13.cells)) ?_
 have f14:=f8.stp S11 R R
 refine Jl tv R R R R (Jd2 (cs:=[.slice aw p1.Next.length aA,.slice aH p1.Pairs.length aB]) I100 Z100 R R R (haE f14.cells)) (Ob h λx19 hx19 h=>?_)
 have f15:=g1_0.stp (S3.tr (S7.tr S11)) R R
 have f16:=g1_1.stp (S3.tr (S7.tr S11)) R R
 refine Jh R R R C117 (kw (κ:=Mk K10) (p0:=p0) (p1:=p1) (Ji3 f15) (Ji3 f16) hx19) ?_
 rintro _ w17 ⟨k18,rfl,e19⟩
 obtain⟨K20,S21,m22⟩:=Ji e19 5 R
 refine⟨tv,Jb 1 R ?_⟩
 revert h
 cases ht24:(!x19)
 refine JF λh=>Jy R (Js (Jp (Je [2,1,2,2] R (Jd3 R U100 R Z26 ?_))))
 have f35:=f14.stp S21 R R
 refine Jb3 R I26 (f35.ld 0 R R) (Jf R (Je2 U26 R R) (Jb 1 R (Je [1,1,2] R ?_)))
 have f36:=f13.stp S21 R R
 refine Jl tv R R R R (Jd2 (cs:=[vi p0.In,vi p0.Out]) I25 Z25 R R R (haE f36.cells)) (Ob h λx27 hx27 h=>Jh R R R C72 (kX (κ:=Mk K20) (p0:=p0) hx27) ?_)
 rintro _ w37 ⟨k38,rfl,e39⟩
 obtain⟨K40,S41,m42⟩:=Ji e39 7 R
 refine⟨tv,Jb 1 R (Je [2,1,1] R (Jf R (bI (parts:=[]) (cells:=[.slice none 0 0,.slice none 0 0]) R R (by kernel_rfl)) (Jg1 (κ:=K40) 9 R R R R R X104 R λb9 w44 K45 S46 f47=>⟨tv,Jj1 (κ:=K45) 9 (vc:=[.slice none 0 0,.slice none 0 0]) R R R R R R R Z104 R R f47 R λw48 S49 f50=>⟨tv,Jd (Jq (Je3 R ?_))⟩⟩)))⟩
 have hN51:(p1.Next.length:Int)<=9223372036854775807:=f15.len_le
 refine Ob h λq2 hq53 hK52=>?_
 clear h
 refine Jx1 (λL w'=>∃κ',∃s3:(List Int)×(List (List Int)),∃aR aD aI ap,L=[(2,.pointer (some ⟨b2,0,none⟩)),(3,.pointer (some ⟨b3,0,none⟩)),(4,.pointer (some ⟨b4,0,none⟩)),(7,vi (p1.Next.length:Int)),(8,vi x27),(9,.pointer (some ⟨b9,0,none⟩))]/\Stp [9,10,11,12,14] K45 w48 κ' w'/\Oc E6 2 κ' w' 10 aR aD s3.1/\Oc (Ep.fz (Rp.sl (Rp.int .i64))) 29 κ' w' 11 aI ap s3.2/\Bc κ' w' 9 b9 104 [.slice aR s3.1.length aD,.slice aI s3.2.length ap]/\q2=t9 s3) ?_ ?_
 refine Jv (Jy1 (λk L w'=>∃κ' v10,∃s1:(List Int)×(List (List Int)),∃az av ai aj,L=[(2,.pointer (some ⟨b2,0,none⟩)),(3,.pointer (some ⟨b3,0,none⟩)),(4,.pointer (some ⟨b4,0,none⟩)),(7,vi (p1.Next.length:Int)),(8,vi x27),(9,.pointer (some ⟨b9,0,none⟩)),(10,vi v10)]/\Stp [9,10,11,12,14] K45 w48 κ' w'/\Oc E6 2 κ' w' 10 az av s1.1/\Oc (Ep.fz (Rp.sl (Rp.int .i64))) 29 κ' w' 11 ai aj s1.2/\Bc κ' w' 9 b9 104 [.slice az s1.1.length av,.slice ai s1.2.length aj]/\0<=v10/\vH ((p1.Next.length:Int)-v10)=k/\cntM (dz p1 x27) k v10 s1=some q2) ⟨_,_,⟨K45,0,((([]:List Int):(List Int)),(([]:List (List Int)):(List (List Int)))),none,0,none,0,R,Jj3,Ow.nil,Ow.nil,f50,(by decide),(by simp),hq53⟩,(KM R)⟩ ?_)
 rintro k _ w60 ⟨K61,v10,s1,az,av,ai,aj,rfl,S62,f63,f64,f65,hj51,hJ51,h⟩
 rcases k with _ | k
 have hk66:=h;obtain⟨o51,h⟩:=bO (t9 (Sum.inl s1):(Arena×(List Pair)×Bool)⊕(((List Int)×(List (List Int)))⊕((List Int)×(List (List Int)))))
 have hc51:decide (v10<(p1.Next.length:Int))=false:=Jo2 (by omega)
 refine Jq (Je3 R (Jw2 R hc51 (Jc1 (Jt (Jt ?_)))))
 cases h
 have h:=hk66
 refine Jb1 ?_
 cases h
 exact Jw1 _ ⟨K61,((s1.1:(List Int)),(s1.2:(List (List Int)))),az,av,ai,aj,R,S62.wk R,f63,f64,f65,R⟩ (KM R)
 obtain⟨o51,h,hk66⟩:=BI h;unfold dz at h
 have hc51:decide (v10<(p1.Next.length:Int))=true:=Jn2 (by omega)
 refine Jq (Je3 R (Jv2 R hc51 (Js (Jp (Jq (Jv (Je [1,2] R (Jo1 (κ:=K61) (E:=E6) 12 R R R R R Y29 Tryzinfo2 R λbj bk w67 K68 S69 f70=>⟨tv,Jb 1 R (Jq (Je3 R (Ob h λ_ hr71 h=>?_)))⟩))))))))
 have hN71:=iF hr71
 refine Ob h λq5 hq73 hK72=>?_
 clear h
 refine Jx1 (λL w'=>∃κ',∃s6:(List Int),∃ao ah,L=[(2,.pointer (some ⟨b2,0,none⟩)),(3,.pointer (some ⟨b3,0,none⟩)),(4,.pointer (some ⟨b4,0,none⟩)),(7,vi (p1.Next.length:Int)),(8,vi x27),(9,.pointer (some ⟨b9,0,none⟩)),(10,vi v10),(11,.slice ao s6.length ah)]/\Stp [12] K68 w67 κ' w'/\Oc E6 2 κ' w' 12 ao ah s6/\q5=t9 s6) ?_ ?_
 refine Jv (Jy1 (λk L w'=>∃κ' v12,∃s4:(List Int),∃aJ aG,L=[(2,.pointer (some ⟨b2,0,none⟩)),(3,.pointer (some ⟨b3,0,none⟩)),(4,.pointer (some ⟨b4,0,none⟩)),(7,vi (p1.Next.length:Int)),(8,vi x27),(9,.pointer (some ⟨b9,0,none⟩)),(10,vi v10),(11,.slice aJ s4.length aG),(12,vi v12)]/\Stp [12] K68 w67 κ' w'/\Oc E6 2 κ' w' 12 aJ aG s4/\0<=v12/\vH (x27-v12)=k/\cntM (dD p1 x27 v10) k v12 s4=some q5) ⟨_,_,⟨K68,0,(([]:List Int):(List Int)),bj,bk,R,Jj3,f70,(by decide),(by simp),hq73⟩,(KM R)⟩ ?_)
 rintro k _ w78 ⟨K79,v12,s4,aJ,aG,rfl,S80,f81,hj71,hJ71,h⟩
 rcases k with _ | k
 have hk82:=h;obtain⟨o71,h⟩:=bO (t9 (Sum.inl s4):(Arena×(List Pair)×Bool)⊕(((List Int))⊕((List Int))))
 have hc71:decide (v12<x27)=false:=Jo2 (by omega)
 refine Jq (Je3 R (Jw2 R hc71 (Jc1 (Jt (Jt ?_)))))
 cases h
 have h:=hk82
 refine Jb1 ?_
 cases h
 exact Jw1 _ ⟨K79,(s4:(List Int)),aJ,aG,R,S80.wk R,f81,R⟩ (KM R)
 obtain⟨o71,h,hk82⟩:=BI h;unfold dD at h
 have hc71:decide (v12<x27)=true:=Jn2 (by omega)
 refine Jq (Je3 R (Jv2 R hc71 (Js (Jp (Jq (Jv (Jh3 [2,2,2,2,2,2,2,2,1,1,2] 8 R (Jn1 (κ:=K79) (E:=E6) 13 [] (parts:=[(0,.tmp 47)]) (cells:=[vi (IntKind.i64.wrap ((IntKind.i64.wrap ((p1.Next.length:Int)+(IntKind.i64.wrap (v10 * x27))))+v12))]) (xs:=([(IntKind.i64.wrap ((IntKind.i64.wrap ((p1.Next.length:Int)+(IntKind.i64.wrap (v10 * x27))))+v12))]:List Int)) R R R R R R Y29 Tryzinfo2 R R R R R R R R R R ⟨[vi (IntKind.i64.wrap ((IntKind.i64.wrap ((p1.Next.length:Int)+(IntKind.i64.wrap (v10 * x27))))+v12))],[],Zl K79 w78 [],Zl K79 w78 [],R,Zl.sp (l1:=[]) (l2:=[]) R,Zl.sr (l1:=[]) (l2:=[]),R,R⟩ λbu bm w83 K84 S85 f86=>⟨tv,Ob h λx49 hx49 h=>Jm1 (κ:=K84) (E:=E6) 12 [] R R R R R R R R R Y29 Tryzinfo2 R R R R (f81.stp S85 R R) (Sl.srcP (bR _) f86.rdc) bJ hx49 R λbc bh w88 K89 S90 f91=>⟨tv,Jc 1 R (Jz (Jp (Jf3 R ?_)))⟩⟩))))))))
 have hw71:t5 .i64 (v12+1)=v12+1:=wr1 hj71 (Jm2 hc71) hN71
 rw[hw71]
 have hc71:=Jm2 hc71
 cases h
 exact Jz1 λa ha=>⟨k,_,Ja3 _,⟨K89,v12+1,(x49:(List Int)),bc,bh,R,(S80.tr (S85.tr S90)).wk R,f91,by omega,by omega,hk82⟩,(ha.mm R)⟩
 rintro _ w74 ⟨K75,s6,ao,ah,rfl,S76,f77,rfl⟩
 have h:=hK72
 dsimp only[aft]at h
 refine Jp (Je [2,1,1,1,2,1] R (Jd3 R U104 R Z29 ?_))
 have f92:=f65.stp (S69.tr S76) R R
 refine Jb3 R I29 (f92.ld 0 R R) (Jn1 (κ:=K75) (E:=E6) 13 [] (parts:=[(0,.const (vi 1))]) (cells:=[vi 1]) (xs:=([1]:List Int)) R R R R R R Y29 Tryzinfo2 R R R R R R R R R R ⟨[vi 1],[],Zl K75 w74 [],Zl K75 w74 [],R,Zl.sp (l1:=[]) (l2:=[]) R,Zl.sr (l1:=[]) (l2:=[]),R,R⟩ λbt bw w93 K94 S95 f96=>⟨tv,Ob h λx53 hx53 h=>Jm1 (κ:=K94) (E:=E6) 10 [] R R R R R R R R R Y29 Tryzinfo2 R R R R (f63.stp (S69.tr (S76.tr S95)) R R) (Sl.srcP (bR _) f96.rdc) bJ hx53 R λaF aT w98 K99 S100 f101=>⟨tv,Jd3 R U104 R Z29 (Ji1 (κ:=K99) 9 (off:=0) (vc:=[.slice aF x53.length aT]) (cs':=[.slice aF x53.length aT,.slice ai s1.2.length aj]) R R R R R R R Z29 R R (f92.stp (S95.tr S100) R R) R R λw103 S104 f105=>⟨tv,Jd (Ja [2,1,2,1,1,2,1] R (Jd3 R U104 R Z26 (Jb3 R I26 (f105.ld 1 R R) (Jn 1 R ?_))))⟩)⟩⟩)
 obtain⟨K107,S108,z109⟩:=dg K99 w103 12
 refine Jn1 (κ:=K107) (E:=(Ep.fz (Rp.sl (Rp.int .i64)))) 14 [] (parts:=[(0,.tmp 57)]) (cells:=[.slice ao s6.length ah]) (xs:=([s6]:List (List Int))) R R R R R R Y26 Tryzinfo29 R R R R R R R R R R ⟨[.slice ao s6.length ah],[],Zl K107 w103 [],Zl K107 w103 [],R,Zl.sp (l1:=[]) (l2:=[]) R,Zl.sr (l1:=[]) (l2:=[]),⟨_,_,R,(Sl.z1 (Sl.st z109 (f77.stp (S95.tr (S100.tr S104)) R R).rdc))⟩,R⟩ λbv bn w111 K112 S113 f114=>⟨tv,Ob h λx59 hx59 h=>Jm1 (κ:=K112) (E:=(Ep.fz (Rp.sl (Rp.int .i64)))) 11 [14] R R R R R R R R R Y26 Tryzinfo29 R R R R (f64.stp (S69.tr (S76.tr (S95.tr (S100.tr (S104.tr (S108.tr S113)))))) R R) f114.src (dc R) hx59 R λaX aW w116 K117 S118 f119=>⟨tv,Jd3 R U104 R Z26 (Ji1 (κ:=K117) 9 (off:=1) (vc:=[.slice aX x59.length aW]) (cs':=[.slice aF x53.length aT,.slice aX x59.length aW]) R R R R R R R Z26 R R (f105.stp (S108.tr (S113.tr S118)) R R) R R λw121 S122 f123=>⟨tv,Jo (Jz (Jp (Jf3 R ?_)))⟩)⟩⟩
 have hw51:t5 .i64 (v10+1)=v10+1:=wr1 hj51 (Jm2 hc51) hN51
 rw[hw51]
 have hc51:=Jm2 hc51
 cases h
 exact Jz1 λa ha=>⟨k,_,Ja3 _,⟨K117,v10+1,((x53:(List Int)),(x59:(List (List Int)))),aF,aT,aX,aW,R,(S62.tr (S69.tr (S76.tr (S95.tr (S100.tr (S104.tr (S108.tr (S113.tr (S118.tr S122))))))))).wk R,(f101.stp (S104.tr (S108.tr (S113.tr (S118.tr S122)))) R R),(f119.stp S122 R R),f123,by omega,by omega,hk66⟩,(ha.mm R)⟩
 rintro _ w54 ⟨K55,s3,aR,aD,aI,ap,rfl,S56,f57,f58,f59,rfl⟩
 have h:=hK52
 dsimp only[aft]at h
 refine Jp (Jq (Je3 R ?_))
 have hN126:(p1.Next.length:Int)<=9223372036854775807:=f15.len_le
 refine Ob h λq8 hq128 hK127=>?_
 clear h
 refine Jx1 (λL w'=>∃κ',∃s9:(List Int)×(List (List Int)),∃ac ad ab aa,L=[(3,.pointer (some ⟨b3,0,none⟩)),(4,.pointer (some ⟨b4,0,none⟩)),(9,.pointer (some ⟨b9,0,none⟩))]/\Stp [9,10,11,16] K55 w54 κ' w'/\Oc E6 2 κ' w' 10 ac ad s9.1/\Oc (Ep.fz (Rp.sl (Rp.int .i64))) 29 κ' w' 11 ab aa s9.2/\Bc κ' w' 9 b9 104 [.slice ac s9.1.length ad,.slice ab s9.2.length aa]/\q8=t9 s9) ?_ ?_
 refine Jv (Jy1 (λk L w'=>∃κ' v13,∃s7:(List Int)×(List (List Int)),∃an ae ak al,L=[(2,.pointer (some ⟨b2,0,none⟩)),(3,.pointer (some ⟨b3,0,none⟩)),(4,.pointer (some ⟨b4,0,none⟩)),(7,vi (p1.Next.length:Int)),(8,vi x27),(9,.pointer (some ⟨b9,0,none⟩)),(13,vi v13)]/\Stp [9,10,11,16] K55 w54 κ' w'/\Oc E6 2 κ' w' 10 an ae s7.1/\Oc (Ep.fz (Rp.sl (Rp.int .i64))) 29 κ' w' 11 ak al s7.2/\Bc κ' w' 9 b9 104 [.slice an s7.1.length ae,.slice ak s7.2.length al]/\0<=v13/\vH ((p1.Next.length:Int)-v13)=k/\cntM (dN p0 p1 x27) k v13 s7=some q8) ⟨_,_,⟨K55,0,((s3.1:(List Int)),(s3.2:(List (List Int)))),aR,aD,aI,ap,R,Jj3,f57,f58,f59,(by decide),(by simp),hq128⟩,(KM R)⟩ ?_)
 rintro k _ w135 ⟨K136,v13,s7,an,ae,ak,al,rfl,S137,f138,f139,f140,hj126,hJ126,h⟩
 rcases k with _ | k
 have hk141:=h;obtain⟨o126,h⟩:=bO (t9 (Sum.inl s7):(Arena×(List Pair)×Bool)⊕(((List Int)×(List (List Int)))⊕((List Int)×(List (List Int)))))
 have hc126:decide (v13<(p1.Next.length:Int))=false:=Jo2 (by omega)
 refine Jq (Je3 R (Jw2 R hc126 (Jc1 (Jt (Jt ?_)))))
 cases h
 have h:=hk141
 refine Jb1 ?_
 cases h
 exact Jw1 _ ⟨K136,((s7.1:(List Int)),(s7.2:(List (List Int)))),an,ae,ak,al,R,S137.wk R,f138,f139,f140,R⟩ (KM R)
 obtain⟨o126,h,hk141⟩:=BI h;unfold dN at h
 have hc126:decide (v13<(p1.Next.length:Int))=true:=Jn2 (by omega)
 refine Jq (Je3 R (Jv2 R hc126 (Js (Jp (Jq (Jv (Je3 R (Ob h λ_ hr142 h=>?_))))))))
 have hN142:=iF hr142
 refine Ob h λq11 hq144 hK143=>?_
 clear h
 refine Jx1 (λL w'=>∃κ',∃s12:(List Int)×(List (List Int)),∃aS ay aU aN,L=[(2,.pointer (some ⟨b2,0,none⟩)),(3,.pointer (some ⟨b3,0,none⟩)),(4,.pointer (some ⟨b4,0,none⟩)),(7,vi (p1.Next.length:Int)),(8,vi x27),(9,.pointer (some ⟨b9,0,none⟩)),(13,vi v13)]/\Stp [9,10,11,16] K136 w135 κ' w'/\Oc E6 2 κ' w' 10 aS ay s12.1/\Oc (Ep.fz (Rp.sl (Rp.int .i64))) 29 κ' w' 11 aU aN s12.2/\Bc κ' w' 9 b9 104 [.slice aS s12.1.length ay,.slice aU s12.2.length aN]/\q11=t9 s12) ?_ ?_
 refine Jv (Jy1 (λk L w'=>∃κ' v14,∃s10:(List Int)×(List (List Int)),∃aO aC af am,L=[(2,.pointer (some ⟨b2,0,none⟩)),(3,.pointer (some ⟨b3,0,none⟩)),(4,.pointer (some ⟨b4,0,none⟩)),(7,vi (p1.Next.length:Int)),(8,vi x27),(9,.pointer (some ⟨b9,0,none⟩)),(13,vi v13),(14,vi v14)]/\Stp [9,10,11,16] K136 w135 κ' w'/\Oc E6 2 κ' w' 10 aO aC s10.1/\Oc (Ep.fz (Rp.sl (Rp.int .i64))) 29 κ' w' 11 af am s10.2/\Bc κ' w' 9 b9 104 [.slice aO s10.1.length aC,.slice af s10.2.length am]/\0<=v14/\vH (x27-v14)=k/\cntM (du p0 p1 v13) k v14 s10=some q11) ⟨_,_,⟨K136,0,((s7.1:(List Int)),(s7.2:(List (List Int)))),an,ae,ak,al,R,Jj3,f138,f139,f140,(by decide),(by simp),hq144⟩,(KM R)⟩ ?_)
 rintro k _ w151 ⟨K152,v14,s10,aO,aC,af,am,rfl,S153,f154,f155,f156,hj142,hJ142,h⟩
 rcases k with _ | k
 have hk157:=h;obtain⟨o142,h⟩:=bO (t9 (Sum.inl s10):(Arena×(List Pair)×Bool)⊕(((List Int)×(List (List Int)))⊕((List Int)×(List (List Int)))))
 have hc142:decide (v14<x27)=false:=Jo2 (by omega)
 refine Jq (Je3 R (Jw2 R hc142 (Jc1 (Jt (Jt ?_)))))
 cases h
 have h:=hk157
 refine Jb1 ?_
 cases h
 exact Jw1 _ ⟨K152,((s10.1:(List Int)),(s10.2:(List (List Int)))),aO,aC,af,am,R,S153.wk R,f154,f155,f156,R⟩ (KM R)
 obtain⟨o142,h,hk157⟩:=BI h;unfold du at h
 have hc142:decide (v14<x27)=true:=Jn2 (by omega)
 refine Jq (Je3 R (Jv2 R hc142 (Js (Jp (Jq (Jv (Je [2,1,1,1,2,1] R (Jd3 R U104 R Z29 (Jb3 R I29 (f156.ld 0 R R) (Jn1 (κ:=K152) (E:=E6) 12 [] (parts:=[(0,.const (vi 0))]) (cells:=[vi 0]) (xs:=([0]:List Int)) R R R R R R Y29 Tryzinfo2 R R R R R R R R R R ⟨[vi 0],[],Zl K152 w151 [],Zl K152 w151 [],R,Zl.sp (l1:=[]) (l2:=[]) R,Zl.sr (l1:=[]) (l2:=[]),R,R⟩ λbl bs w158 K159 S160 f161=>⟨tv,Ob h λx74 hx74 h=>Jm1 (κ:=K159) (E:=E6) 10 [] R R R R R R R R R Y29 Tryzinfo2 R R R R (f154.stp S160 R R) (Sl.srcP (bR _) f161.rdc) bJ hx74 R λaK aL w163 K164 S165 f166=>⟨tv,Jd3 R U104 R Z29 (Ji1 (κ:=K164) 9 (off:=0) (vc:=[.slice aK x74.length aL]) (cs':=[.slice aK x74.length aL,.slice af s10.2.length am]) R R R R R R R Z29 R R (f156.stp (S160.tr S165) R R) R R λw168 S169 f170=>⟨tv,Jd (Js1 (κ:=K164) [2,3,9] (some 10) [(0,2),(4,2),(5,2),(1,0),(2,0),(3,0),(6,1),(7,1),(8,1),(9,2)] [(10,1)] (by kernel_rfl) (by kernel_rfl) λw172 S171=>Jd3 R U104 R Z26 (Jn 2 R ?_))⟩)⟩⟩))))))))))
 have f173:=f170.stp S171 R R
 have S001:=(S21.tr (S41.tr (S46.tr (S49.tr (S56.tr (S137.tr (S153.tr (S160.tr (S165.tr (S169.tr S171))))))))))
 have S002:=(S41.tr (S46.tr (S49.tr (S56.tr (S137.tr (S153.tr (S160.tr (S165.tr (S169.tr S171)))))))))
 refine Jg R (Jc2 I26 R R (hvC (f173.ld 1 R R) R)) (Jg R (Jd2 (cs:=[vi p0.In,vi p0.Out]) I25 Z25 R R R (haC (f36.stp S002 R R).cells R)) (Jg R (Jd2 (cs:=[.slice aw p1.Next.length aA,.slice aH p1.Pairs.length aB]) I100 Z100 R R R (haC (f35.stp S002 R R).cells R)) (Ob h λx82 hx82 h=>Jh R R R C118 (pq (κ:=λb=>mp [] 1 (K164 b)) (p0:=p0) (p1:=p1) (Jl2 (f15.stp S001 R R) (mp [] 1) R R) (Jl2 (f16.stp S001 R R) (mp [] 1) R R) hx82) ?_)))
 rintro _ w178 ⟨k179,ba,aZ,rfl,e180,f181⟩
 obtain⟨K182,S183,m184,z185⟩:=Jj e180 13 R
 refine⟨(S183.cl R),Jn1 (κ:=K182) (E:=(Ep.fz (Rp.sl (Rp.int .i64)))) 16 [] (parts:=[(0,.tmp 82)]) (cells:=[.slice ba x82.length aZ]) (xs:=([x82]:List (List Int))) R R R R R R Y26 Tryzinfo29 R R R R R R R R R R ⟨[.slice ba x82.length aZ],[],Zl K182 w178 [],Zl K182 w178 [],R,Zl.sp (l1:=[]) (l2:=[]) R,Zl.sr (l1:=[]) (l2:=[]),⟨_,_,R,(Sl.z1 (f181.mx z185))⟩,R⟩ λbq br w187 K188 S189 f190=>⟨((S183.tr S189).cl R),Ob h λx84 hx84 h=>Jm1 (κ:=K188) (E:=(Ep.fz (Rp.sl (Rp.int .i64)))) 11 [16] R R R R R R R R R Y26 Tryzinfo29 R R R R (f155.stp (S160.tr (S165.tr (S169.tr (S171.tr (S183.tr S189))))) R R) f190.src (dc R) hx84 R λaY aV w192 K193 S194 f195=>⟨((S183.tr (S189.tr S194)).cl R),Jd3 R U104 R Z26 (Jt1 (Ji1 (κ:=K193) 9 (off:=1) (vc:=[.slice aY x84.length aV]) (cs':=[.slice aK x74.length aL,.slice aY x84.length aV]) R R R R R R R Z26 R R (f173.stp (S183.tr (S189.tr S194)) R R) R R λw197 S198 f199=>⟨tv,Jo (Jz (Jp (Jf3 R ?_)))⟩))⟩⟩⟩
 have hw142:t5 .i64 (v14+1)=v14+1:=wr1 hj142 (Jm2 hc142) hN142
 rw[hw142]
 have hc142:=Jm2 hc142
 cases h
 exact Jz1 λa ha=>⟨k,_,Ja3 _,⟨K193,v14+1,((x74:(List Int)),(x84:(List (List Int)))),aK,aL,aY,aV,R,(S153.tr (S160.tr (S165.tr (S169.tr (S171.tr (S183.tr (S189.tr (S194.tr S198)))))))).wk R,(f166.stp (S169.tr (S171.tr (S183.tr (S189.tr (S194.tr S198))))) R R),(f195.stp S198 R R),f199,by omega,by omega,hk157⟩,(ha.mm R)⟩
 rintro _ w145 ⟨K146,s12,aS,ay,aU,aN,rfl,S147,f148,f149,f150,rfl⟩
 have h:=hK143
 dsimp only[aft]at h
 refine Jz (Jp (Jf3 R ?_))
 have hw126:t5 .i64 (v13+1)=v13+1:=wr1 hj126 (Jm2 hc126) hN126
 rw[hw126]
 have hc126:=Jm2 hc126
 cases h
 exact Jz1 λa ha=>⟨k,_,Ja3 _,⟨K146,v13+1,((s12.1:(List Int)),(s12.2:(List (List Int)))),aS,ay,aU,aN,R,(S137.tr S147).wk R,f148,f149,f150,by omega,by omega,hk141⟩,(ha.mm R)⟩
 rintro _ w129 ⟨K130,s9,ac,ad,ab,aa,rfl,S131,f132,f133,f134,rfl⟩
 have h:=hK127
 dsimp only[aft]at h
 refine Jp (Je [1,2] R (Jo1 (κ:=K130) (E:=Pair.ep154) 12 R R R R R Y98 Tryzinfo154 R λbi bb w202 K203 S204 f205=>⟨tv,Jb 1 R (Jq (Je3 R ?_))⟩))
 have hN206:(p1.Pairs.length:Int)<=9223372036854775807:=f16.len_le
 refine Ob h λq14 hq208 hK207=>?_
 clear h
 refine Jx1 (λL w'=>∃κ',∃s15:(List Pair),∃ax aM,L=[(4,.pointer (some ⟨b4,0,none⟩)),(9,.pointer (some ⟨b9,0,none⟩)),(15,.slice ax s15.length aM)]/\Stp [12,15,18,19] K203 w202 κ' w'/\Oc Pair.ep154 154 κ' w' 12 ax aM s15/\q14=t9 s15) ?_ ?_
 refine Jv (Jy1 (λk L w'=>∃κ' v16,∃s13:(List Pair),∃aE ar,L=[(3,.pointer (some ⟨b3,0,none⟩)),(4,.pointer (some ⟨b4,0,none⟩)),(9,.pointer (some ⟨b9,0,none⟩)),(15,.slice aE s13.length ar),(16,vi v16)]/\Stp [12,15,18,19] K203 w202 κ' w'/\Oc Pair.ep154 154 κ' w' 12 aE ar s13/\0<=v16/\vH ((p1.Pairs.length:Int)-v16)=k/\cntM (dC p1) k v16 s13=some q14) ⟨_,_,⟨K203,0,(([]:List Pair):(List Pair)),bi,bb,R,Jj3,f205,(by decide),(by simp),hq208⟩,(KM R)⟩ ?_)
 rintro k _ w213 ⟨K214,v16,s13,aE,ar,rfl,S215,f216,hj206,hJ206,h⟩
 rcases k with _ | k
 have hk217:=h;obtain⟨o206,h⟩:=bO (t9 (Sum.inl s13):(Arena×(List Pair)×Bool)⊕(((List Pair))⊕((List Pair))))
 have hc206:decide (v16<(p1.Pairs.length:Int))=false:=Jo2 (by omega)
 refine Jq (Jg3 [2,2,1,2,2] 1 R (Jd3 R U100 R Z98 (Jb3 R I98 ((f35.stp (S41.tr (S46.tr (S49.tr (S56.tr (S131.tr (S204.tr S215)))))) R R).ld 1 R R) (Jf R (Je2 U98 R R) (Jb 1 R (Jw2 R hc206 (Jc1 (Jt (Jt ?_)))))))))
 cases h
 have h:=hk217
 refine Jb1 ?_
 cases h
 exact Jw1 _ ⟨K214,(s13:(List Pair)),aE,ar,R,S215.wk R,f216,R⟩ (KM R)
 obtain⟨o206,h,hk217⟩:=BI h;unfold dC at h
 have hc206:decide (v16<(p1.Pairs.length:Int))=true:=Jn2 (by omega)
 refine Jq (Jg3 [2,2,1,2,2] 1 R (Jd3 R U100 R Z98 ?_))
 have f219:=f35.stp (S41.tr (S46.tr (S49.tr (S56.tr (S131.tr (S204.tr S215)))))) R R
 refine Jb3 R I98 (f219.ld 1 R R) (Jf R (Je2 U98 R R) (Jb 1 R (Jv2 R hc206 (Js (Jp (Jq (Jv (Js1 (κ:=K214) [0,3] none [(0,2),(1,2),(3,2),(8,2),(10,2),(2,0),(4,2),(5,2),(6,0),(9,0),(11,2),(12,2),(13,0),(7,1),(14,1),(15,2),(16,1),(17,1),(18,2)] [] (by kernel_rfl) (by kernel_rfl) λw221 S220=>Jn 1 R (Jd3 R U100 R Z98 (Jn 1 R (Jd3 R U100 R Z98 (Jn 1 R ?_))))))))))))
 have f222:=f219.stp S220 R R
 refine Jg R (Jc2 I98 R R (hvC (f222.ld 1 R R) R)) (Ob h λx98 hx98 h=>Jc3 R f16 hx98 U98 Z154 (Jd3 R U154 R Z29 ?_))
 have f223:=f16.stp (S21.tr (S41.tr (S46.tr (S49.tr (S56.tr (S131.tr (S204.tr (S215.tr S220)))))))) R R
 obtain⟨cse224,hre224,hle224⟩:=(f223).gSt hx98
 obtain⟨ae224_0,ue224_0,ae224_1,ue224_1,rfl,fe224_0,fe224_1⟩:=Pair.un hre224
 refine Jg R (Jc2 I29 R R (hvC (λw' hw'=>hle224 w' hw' 0 _ R) R)) (Jg R (Jc2 I98 R R (hvC (f222.ld 1 R R) R)) (Ob h λx105 hx105 h=>Jc3 R f223 hx105 U98 Z154 (Jd3 R U154 R Z29 ?_)))
 obtain⟨cse225,hre225,hle225⟩:=(f223).gSt hx105
 obtain⟨ae225_0,ue225_0,ae225_1,ue225_1,rfl,fe225_0,fe225_1⟩:=Pair.un hre225
 refine Jg R (Jc2 I29 R R (hvC (λw' hw'=>hle225 w' hw' 1 _ R) R)) (Ob h λx101 hx101 h=>Jh R R R C56 (dj (κ:=Mk K214) (Ji3 fe224_0) hx101) ?_)
 rintro _ w226 ⟨k227,aq,aQ,rfl,e228,f229⟩
 obtain⟨K230,S231,m232⟩:=Ji e228 13 R
 refine⟨(S231.cl R),Ob h λx108 hx108 h=>Jh R R R C56 (dj (κ:=Mk K230) (Ji3 (fe225_1.stp S231 R R)) hx108) ?_⟩
 rintro _ w236 ⟨k237,aP,au,rfl,e238,f239⟩
 obtain⟨K240,S241,m242⟩:=Ji e238 16 R
 have S003:=(S231.tr S241)
 refine⟨(S003.cl R),Jf R (bI (parts:=[(0,.tmp 101),(1,.tmp 108)]) (cells:=[.slice aq x101.length aQ,.slice aP x108.length au]) R R (by kernel_rfl)) (Jn1 (κ:=K240) (E:=Pair.ep154) 19 [15,18] (parts:=[(0,.tmp 109)]) (cells:=[.slice aq x101.length aQ,.slice aP x108.length au]) (xs:=([(⟨x101,x108⟩:Pair)]:List Pair)) R R R R R R Y98 Tryzinfo154 R R R R R R R R R R ⟨[.slice aq x101.length aQ,.slice aP x108.length au],[],Zl K240 w236 [15,18],Zl K240 w236 [],R,Zl.sp (l1:=[15,18]) (l2:=[]) R,Zl.sr (l1:=[15,18]) (l2:=[]),⟨[.slice aq x101.length aQ],[.slice aP x108.length au],Zl K240 w236 [15],Zl K240 w236 [18],R,Zl.sp (l1:=[15]) (l2:=[18]) R,Zl.sr (l1:=[15]) (l2:=[18]),⟨_,_,R,((f229.mx (bH _) m232 R (R:13+2=15)).stp S241 R R)⟩,⟨_,_,R,(f239.mx (bH _) m242 R (R:16+2=18))⟩⟩,R⟩ λbp bo w246 K247 S248 f249=>⟨((S003.tr S248).cl R),Ob h λx111 hx111 h=>Jm1 (κ:=K247) (E:=Pair.ep154) 12 [19] R R R R R R R R R Y98 Tryzinfo154 R R R R (f216.stp (S220.tr (S231.tr (S241.tr S248))) R R) f249.src (dc R) hx111 R λbg be w251 K252 S253 f254=>⟨((S003.tr (S248.tr S253)).cl R),Jn 1 R (Jt1 (Jo (Jz (Jp (Jf3 R ?_)))))⟩⟩)⟩
 have hw206:t5 .i64 (v16+1)=v16+1:=wr1 hj206 (Jm2 hc206) hN206
 rw[hw206]
 have hc206:=Jm2 hc206
 cases h
 exact Jz1 λa ha=>⟨k,_,Ja3 _,⟨K252,v16+1,(x111:(List Pair)),bg,be,R,(S215.tr (S220.tr (S231.tr (S241.tr (S248.tr S253))))).wk R,f254,by omega,by omega,hk217⟩,(ha.mm R)⟩
 rintro _ w209 ⟨K210,s15,ax,aM,rfl,S211,f212,rfl⟩
 have h:=hK207
 dsimp only[aft]at h
 refine Jp (Je [1,2,1,2,2] R (Jl tv R R R R (Jd2 (cs:=[.slice ac s9.1.length ad,.slice ab s9.2.length aa]) I104 Z104 R R R (haE (f134.stp (S204.tr S211) R R).cells)) (Jn 1 R (Jj1 (κ:=K210) 4 (vc:=[.slice ac s9.1.length ad,.slice ab s9.2.length aa]) R R R R R R R Z104 R R (f12.stp (S21.tr (S41.tr (S46.tr (S49.tr (S56.tr (S131.tr (S204.tr S211))))))) R R) R λw257 S258 f259=>⟨tv,Jb 2 R (Ju (Ja2 (l:=[.cell 4 104,.tmp 5,.tmp 6]) V69 (bL R f259 I104 Z104 R (Jp2 R (Jp2 R R))) R ?_))⟩))))
 cases h
 have S004:=(S204.tr (S211.tr S258))
 exact⟨(λb=>ren [(10,2),(11,3),(12,4)] (K210 b)),ac,ad,ab,aa,ax,aM,R,((hE.stp (S3.tr (S7.tr (S11.tr (S21.tr (S41.tr (S46.tr (S49.tr (S56.tr (S131.tr (S204.tr (S211.tr S258))))))))))) R R).map (ren [(10,2),(11,3),(12,4)]) R R),((f132.stp S004 R R).map (ren [(10,2),(11,3),(12,4)]) R R),((f133.stp S004 R R).map (ren [(10,2),(11,3),(12,4)]) R R),((f212.stp S258 R R).map (ren [(10,2),(11,3),(12,4)]) R R)⟩
 refine JT λh=>Jx R (Je [2,1,1,2,2] R (Jf R (bI (parts:=[]) (cells:=[.slice none 0 0,.slice none 0 0]) R R (by kernel_rfl)) (Jo1 (κ:=K20) (E:=Pair.ep154) 7 R R R R R Y98 Tryzinfo154 R λbf bd w25 K26 S27 f28=>⟨tv,Jj1 (κ:=K26) 4 (vc:=[.slice none 0 0,.slice none 0 0]) R R R R R R R Z104 R R (f12.stp (S21.tr S27) R R) R λw30 S31 f32=>⟨tv,Jb 2 R (Ju (Jw (Ja2 (l:=[.cell 4 104,.tmp 5,.tmp 6]) V69 (bL R f32 I104 Z104 R (Jp2 R (Jp2 R R))) R ?_)))⟩⟩)))
 cases h
 exact⟨(λb=>ren [(7,4)] (K26 b)),none,0,none,0,bf,bd,R,((hE.stp (S3.tr (S7.tr (S11.tr (S21.tr (S27.tr S31))))) R R).map (ren [(7,4)]) R R),Ow.nil,Ow.nil,((f28.stp S31 R R).map (ren [(7,4)]) R R)⟩
theorem ng {w:World}{κ:Col}{aa ad ab ac}{p0:Arena}{a1 u1}{p1:(List Pair)}{p2:Int}(g0_0:Rd (Rp.int .i64) κ w 0 aa ad p0.Owner) (g0_1:Rd (Rp.sl (Rp.int .i64)) κ w 0 ab ac p0.Next) (g1:Rd Pair.rp κ w 0 a1 u1 p1){r:Int}(h:fb p0 p1 p2=some r):Ret Tryz.prog 153 [.agg #[.slice aa p0.Owner.length ad,.slice ab p0.Next.length ac],.slice a1 p1.length u1,vi p2] w (λv w'=>∃(κ':Col),v=vi r/\Ent κ w κ' w'):=by
 unfold fb at h
 refine Ret.enter F153 R N153 R ?_
 dsimp only[envOf]
 have hE:=Ent.refl κ w
 refine Je [1,2] R (Jf1 (κ:=κ) 2 R R R R R R R λb3 w1 K2 S3 f4=>⟨tv,Jb 1 R (Jq (Je [1,1,2,2,2,1,1,1,2,2,2,1,2,1,2,2] R (Jl tv R R R R (Jd2 (cs:=[.slice aa p0.Owner.length ad,.slice ab p0.Next.length ac]) I104 Z104 R R R (haE f4.cells)) (Ob h λx11 hx11 h=>?_))))⟩)
 have f5:=g0_0.stp S3 R R
 have f6:=g0_1.stp S3 R R
 refine Jh R R R C194 (mT (κ:=Mk K2) (p0:=p0) (Ji3 f5) (Ji3 f6) hx11) ?_
 rintro _ w7 ⟨k8,rfl,e9⟩
 obtain⟨K10,S11,m12⟩:=Ji e9 3 R
 refine⟨tv,Jn 2 R (Ob h λp19 h hK14=>Ju1 [(4,2),(5,1),(6,1),(7,1),(8,2),(9,2)] [(10,2),(11,1),(12,2),(13,1),(14,2),(15,2)] (λL w'=>L=[(1,.slice a1 p1.length u1),(2,vi p2),(3,.pointer (some ⟨b3,0,none⟩)),(19,.bool p19)]/\∃κ',Stp [] K10 w7 κ' w') tv ?_ ?_)⟩
 revert h
 cases ht15:(!x11)
 refine JF λh=>Jn 1 R (Jl tv R R R R (Jd2 (cs:=[.slice aa p0.Owner.length ad,.slice ab p0.Next.length ac]) I104 Z104 R R R (haE (f4.stp S11 R R).cells)) (Ob h λx16 hx16 h=>Jh R R R C193 (mZ (κ:=Mk K10) (p0:=p0) (Ji3 (f5.stp S11 R R)) (Ji3 (f6.stp S11 R R)) hx16) ?_))
 rintro _ w19 ⟨k20,rfl,e21⟩
 obtain⟨K22,S23,m24⟩:=Ji e21 5 R
 refine⟨tv,Ob h λx17 hx17 h=>Jh R R R C197 (lU (κ:=Mk K22) (Ji3 (g1.stp (S3.tr (S11.tr S23)) R R)) hx17) ?_⟩
 rintro _ w27 ⟨k28,rfl,e29⟩
 obtain⟨K30,S31,m32⟩:=Ji e29 7 R
 refine⟨tv,Jn 2 R ?_⟩
 cases h
 exact Jv1 _ tv ⟨R,_,(S23.tr S31).wk R⟩ (KM R)
 refine JT λh=>Jn 1 R (Jd1 R R R R (Jd1 R R R R (Jd1 R R R R (Jn 2 R ?_))))
 cases h
 exact Jv1 _ tv ⟨R,_,Jj3⟩ (KM R)
 rintro _ w34 _ ⟨rfl,K35,S36⟩
 have h:=hK14
 refine Jn 1 R (Ob h λp25 h hK37=>Ju1 [(11,1),(12,2),(13,1),(14,2),(15,2)] [] (λL w'=>L=[(1,.slice a1 p1.length u1),(2,vi p2),(3,.pointer (some ⟨b3,0,none⟩)),(25,.bool p25)]/\∃κ',Stp [] K35 w34 κ' w') tv ?_ ?_)
 revert h
 cases ht38:p19
 refine JF λh=>Jl tv R R R R (Jd2 (cs:=[.slice aa p0.Owner.length ad,.slice ab p0.Next.length ac]) I104 Z104 R R R (haE (f4.stp (S11.tr S36) R R).cells)) (Jn 1 R (Ob h λx23 hx23 h=>Jh R R R C202 (oH (κ:=Mk K35) (p0:=p0) (Ji3 (f5.stp (S11.tr S36) R R)) (Ji3 (f6.stp (S11.tr S36) R R)) hx23) ?_))
 rintro _ w42 ⟨k43,rfl,e44⟩
 obtain⟨K45,S46,m47⟩:=Ji e44 5 R
 refine⟨tv,Jn 2 R ?_⟩
 cases h
 exact Jv1 _ tv ⟨R,_,S46.wk R⟩ (KM R)
 refine JT λh=>Jd1 R R R R (Jn 1 R (Jd1 R R R R (Jn 2 R ?_)))
 cases h
 exact Jv1 _ tv ⟨R,_,Jj3⟩ (KM R)
 rintro _ w49 _ ⟨rfl,K50,S51⟩
 have h:=hK37
 refine Jd ?_
 revert h
 cases ht52:p25
 have S001:=(S11.tr (S36.tr S51))
 refine JF λh=>Jy R (Js (Jp (Je [1,2,2,1,2,2,2,2,1,1,2,2] R (Jl tv R R R R (Jd2 (cs:=[.slice aa p0.Owner.length ad,.slice ab p0.Next.length ac]) I104 Z104 R R R (haE (f4.stp S001 R R).cells)) (Jn 2 R (Ob h λx30 hx30 h=>Jh R R R C79 (mc (κ:=λb=>mp [] 1 (K50 b)) (p0:=p0) (Jl2 (f5.stp S001 R R) (mp [] 1) R R) (Jl2 (f6.stp S001 R R) (mp [] 1) R R) (Jl2 (g1.stp (S3.tr (S11.tr (S36.tr S51))) R R) (mp [] 1) R R) hx30) ?_))))))
 rintro _ w58 ⟨k59,ae,aj,ai,ak,af,ah,an,ao,rfl,e60,f61,f62,f63,f64⟩
 obtain⟨K65,S66,m67,z68⟩:=Jj e60 5 R
 refine⟨tv,Jn 4 R (Jg1 (κ:=K65) 11 R R R R R X108 R λb7 w73 K74 S75 f76=>⟨tv,Jj1 (κ:=K74) 11 (vc:=[.slice ae x30.1.Arena.Owner.length aj,.slice ai x30.1.Arena.Next.length ak,.slice af x30.1.Prio.length ah]) R R R R R R R Z108 R R f76 R λw77 S78 f79=>⟨tv,Jb 2 R (Jq (Je3 R ?_))⟩⟩)⟩
 revert h
 cases ht80:(!x30.2.2)
 refine JF λh=>Jy R (Js (Jp (Je [1,1,2,1,2] R (Jl tv R R R R (Jd2 (cs:=[.slice ae x30.1.Arena.Owner.length aj,.slice ai x30.1.Arena.Next.length ak,.slice af x30.1.Prio.length ah]) I108 Z108 R R R (haE f79.cells)) (Ob h λx37 hx37 h=>Jh R R R C80 (kp (κ:=Mk K74) (p0:=x30.1) (Ji3 ((f61.mx (bH _) m67 R (R:5+2=7)).stp (S75.tr S78) R R).rdc) (Ji3 ((f62.mxz z68 m67 R (R:5+3=8)).stp (S75.tr S78) R R).rdc) (Ji3 ((f63.mx (bH _) m67 R (R:5+4=9)).stp (S75.tr S78) R R).rdc) hx37) ?_)))))
 rintro _ w85 ⟨k86,al,am,rfl,e87,f88⟩
 obtain⟨K89,S90,m91⟩:=Ji e87 12 R
 refine⟨tv,?_⟩
 have f93:=f88.mx (bH _) m91 R (R:12+2=14)
 refine Ob h λx38 hx38 h=>Jc3 R f93.rdc hx38 U29 Z2 (Jb3 R I2 (f93.rdc.gInt hx38) (Jb 1 R (Ju (Ja2 (l:=[.tmp 6]) V153 (Jp2 R R) R ?_))))
 cases h
 exact⟨K89,R,(hE.stp (S3.tr (S11.tr (S36.tr (S51.tr (S66.tr (S75.tr (S78.tr S90))))))) R R)⟩
 refine JT λh=>Jx R (Je3 R (Ju (Jw (Ja2 (l:=[.tmp 6]) V153 (Jp2 R R) R ?_))))
 cases h
 exact⟨K74,R,(hE.stp (S3.tr (S11.tr (S36.tr (S51.tr (S66.tr (S75.tr S78)))))) R R)⟩
 refine JT λh=>Jx R (Je3 R (Ju (Jw (Ja2 (l:=[.tmp 6]) V153 (Jp2 R R) R ?_))))
 cases h
 exact⟨K50,R,(hE.stp (S3.tr (S11.tr (S36.tr S51))) R R)⟩
end Go.Proofs.YtpcjbkgbnoocaaaGreat
