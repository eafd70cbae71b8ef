/- The walks, part 13. By program. -/
import Derived.Test.YtpcjbkgbnoocaaaGreatFns12CO
set_option linter.unusedVariables false
set_option linter.unusedSimpArgs false
open Go.IntKind renaming wrap → hV
open Sum renaming inr → it, inl → sh
open Int renaming toNat → t5
namespace Go.Proofs.YtpcjbkgbnoocaaaGreat
open Go Go.Wk Go.Proofs
set_option maxRecDepth 100000
set_option maxHeartbeats 1000000
theorem iP {w:World}{κ:Col}{p0:Sig}{ae af ab aa}{p1:Det}{ac ah ad ai}{p2:Det}(g1_0:Rd (Rp.sl (Rp.int .i64)) κ w 0 ae af p1.Next) (g1_1:Rd Pair.rp κ w 0 ab aa p1.Pairs) (g2_0:Rd (Rp.sl (Rp.int .i64)) κ w 0 ac ah p2.Next) (g2_1:Rd Pair.rp κ w 0 ad ai p2.Pairs){r:Det×Bool}(h:iu p0 p1 p2=some r):Ret Tryz.prog 115 [.agg #[vi p0.In,vi p0.Out],.agg #[.slice ae p1.Next.length af,.slice ab p1.Pairs.length aa],.agg #[.slice ac p2.Next.length ah,.slice ad p2.Pairs.length ai]] w (λv w'=>∃(κ':Col) (ra0:Option Addr) (ru0:Nat) (ra1:Option Addr) (ru1:Nat),v= .tuple #[.agg #[.slice ra0 r.1.Next.length ru0,.slice ra1 r.1.Pairs.length ru1],.bool r.2]/\Ent κ w κ' w'/\Oc (Ep.own E6 2) 29 κ' w' 2 ra0 ru0 r.1.Next/\Oc Pair.ep154 154 κ' w' 3 ra1 ru1 r.1.Pairs):=by
 unfold iu at h
 refine Ret.enter F115 R N115 R ?_
 dsimp only[envOf]
 have hE:=Ent.refl κ w
 refine Je [1,1,1,1,2] R (Jf1 (κ:=κ) 2 R R R R R R R λb3 w1 K2 S3 f4=>⟨tv,Jf1 (κ:=K2) 3 R R R R R R R λb4 w5 K6 S7 f8=>⟨tv,Jf1 (κ:=K6) 4 R R R R R R R λb5 w9 K10 S11 f12=>⟨tv,Jg1 (κ:=K10) 5 R R R R R X100 R λb6 w13 K14 S15 f16=>⟨tv,Jb 1 R (Jq (Je [1,1,1,2,2,1,1,1,2,2,2,2,1,2,2,1,2,2,2,2] R ?_))⟩⟩⟩⟩)
 have f17:=f4.stp (S7.tr (S11.tr S15)) R R
 refine Jl tv R R R R (Jd2 (cs:=[vi p0.In,vi p0.Out]) I25 Z25 R R R (haE f17.cells)) ?_
 have f18:=f8.stp (S11.tr S15) R R
 refine Jl tv R R R R (Jd2 (cs:=[.slice ae p1.Next.length af,.slice ab p1.Pairs.length aa]) I100 Z100 R R R (haE f18.cells)) (Ob h λx10 hx10 h=>?_)
 have f19:=g1_0.stp (S3.tr (S7.tr (S11.tr S15))) R R
 have f20:=g1_1.stp (S3.tr (S7.tr (S11.tr S15))) R R
 refine Jh R R R C117 (lN (κ:=Mk K14) (p0:=p0) (p1:=p1) (Ji3 f19) (Ji3 f20) hx10) ?_
 rintro _ w21 ⟨k22,rfl,e23⟩
 obtain⟨K24,S25,m26⟩:=Ji e23 6 R
 refine⟨tv,Jn 2 R (Ob h λp17 h hK28=>Ju1 [(5,1),(6,1),(7,1),(8,2),(9,2)] [(10,2),(11,2),(12,1),(13,2),(14,2),(15,1),(16,2),(17,2),(18,2),(19,2)] (λL w'=>L=[(3,.pointer (some ⟨b3,0,none⟩)),(4,.pointer (some ⟨b4,0,none⟩)),(5,.pointer (some ⟨b5,0,none⟩)),(6,.pointer (some ⟨b6,0,none⟩)),(17,.bool p17)]/\∃κ',Stp [] K24 w21 κ' w') tv ?_ ?_)⟩
 revert h
 cases ht29:(!x10)
 have S001:=(S3.tr (S7.tr (S11.tr (S15.tr S25))))
 refine JF λh=>Jl tv R R R R (Jd2 (cs:=[vi p0.In,vi p0.Out]) I25 Z25 R R R (haE (f17.stp S25 R R).cells)) (Jl tv R R R R (Jd2 (cs:=[.slice ac p2.Next.length ah,.slice ad p2.Pairs.length ai]) I100 Z100 R R R (haE (f12.stp (S15.tr S25) R R).cells)) (Ob h λx15 hx15 h=>Jh R R R C117 (lN (κ:=Mk K24) (p0:=p0) (p1:=p2) (Ji3 (g2_0.stp S001 R R)) (Ji3 (g2_1.stp S001 R R)) hx15) ?_))
 rintro _ w34 ⟨k35,rfl,e36⟩
 obtain⟨K37,S38,m39⟩:=Ji e36 8 R
 refine⟨tv,Jn 2 R ?_⟩
 cases h
 exact Jv1 _ tv ⟨R,_,S38.wk R⟩ (KM R)
 refine JT λh=>Jd1 R R R R (Jd1 R R R R (Jd1 R R R R (Jn 2 R ?_)))
 cases h
 exact Jv1 _ tv ⟨R,_,Jj3⟩ (KM R)
 rintro _ w41 _ ⟨rfl,K42,S43⟩
 have h:=hK28
 refine Jn 1 R (Ob h λp27 h hK44=>Ju1 [(11,2),(12,1),(13,2),(14,2),(15,1),(16,2),(17,2),(18,2),(19,2)] [] (λL w'=>L=[(3,.pointer (some ⟨b3,0,none⟩)),(4,.pointer (some ⟨b4,0,none⟩)),(5,.pointer (some ⟨b5,0,none⟩)),(6,.pointer (some ⟨b6,0,none⟩)),(27,.bool p27)]/\∃κ',Stp [] K42 w41 κ' w') tv ?_ ?_)
 revert h
 cases ht45:p17
 refine JF λh=>Jd3 R U100 R Z98 (Jb3 R I98 ((f18.stp (S25.tr S43) R R).ld 1 R R) (Jf R (Je2 U98 R R) (Jd3 R U100 R Z98 (Jb3 R I98 ((f12.stp (S15.tr (S25.tr S43)) R R).ld 1 R R) (Jf R (Je2 U98 R R) (Jn 3 R ?_))))))
 cases h
 exact Jv1 _ tv ⟨R,_,Jj3⟩ (KM R)
 refine JT λh=>Jn 1 R (Jd1 R R R R (Jn 2 R (Jd1 R R R R (Jn 4 R ?_))))
 cases h
 exact Jv1 _ tv ⟨R,_,Jj3⟩ (KM R)
 rintro _ w48 _ ⟨rfl,K49,S50⟩
 have h:=hK44
 refine Jd ?_
 revert h
 cases ht51:p27
 refine JF λh=>Jy R (Js (Jp (Jq (Js1 (κ:=K49) [2,3,4] none [(0,0),(1,0),(2,0),(3,1),(4,1),(5,2),(6,2),(7,1),(8,2)] [] (by kernel_rfl) (by kernel_rfl) λw58 S57=>Jg R (Jd2 (cs:=[.slice ae p1.Next.length af,.slice ab p1.Pairs.length aa]) I100 Z100 R R R (haC (f18.stp (S25.tr (S43.tr (S50.tr S57))) R R).cells R)) (Jg R (Jd2 (cs:=[.slice ac p2.Next.length ah,.slice ad p2.Pairs.length ai]) I100 Z100 R R R (haC (f12.stp (S15.tr (S25.tr (S43.tr (S50.tr S57)))) R R).cells R)) (Jg R (Jd2 (cs:=[vi p0.In,vi p0.Out]) I25 Z25 R R R (haC (f17.stp (S25.tr (S43.tr (S50.tr S57))) R R).cells R)) (Ob h λx32 hx32 h=>Jh R R R C58 (eC (κ:=Mk K49) (p0:=p0) hx32) ?_)))))))
 rintro _ w62 ⟨k63,rfl,e64⟩
 obtain⟨K65,S66,m67⟩:=Ji e64 8 R
 have S002:=(S3.tr (S7.tr (S11.tr (S15.tr (S25.tr (S43.tr (S50.tr (S57.tr S66))))))))
 have S003:=(S25.tr (S43.tr (S50.tr (S57.tr S66))))
 refine⟨(S66.cl R),Ob h λx33 hx33 h=>Jh R R R C164 (nH (κ:=Mk K65) (p0:=p1) (p1:=p2) (Ji3 (f19.stp S003 R R)) (Ji3 (f20.stp S003 R R)) (Ji3 (g2_0.stp S002 R R)) (Ji3 (g2_1.stp S002 R R)) hx33) ?_⟩
 rintro _ w73 ⟨k74,al,ak,am,aj,rfl,e75,f76,f77⟩
 obtain⟨K78,S79,m80⟩:=Ji e75 10 R
 refine⟨((S66.tr S79).cl R),Jn 2 R (Jj1 (κ:=K78) 5 (vc:=[.slice al x33.1.Next.length ak,.slice am x33.1.Pairs.length aj]) R R R R R R R Z100 R R (f16.stp (S25.tr (S43.tr (S50.tr (S57.tr (S66.tr S79))))) R R) R λw85 S86 f87=>⟨((S66.tr (S79.tr S86)).cl R),Jn 1 R (Jt1 (Jd (Ju (Ja2 (l:=[.cell 6 100,.tmp 7]) V115 (bL R f87 I100 Z100 R (Jp2 R R)) R ?_))))⟩)⟩
 cases h
 exact⟨(λb=>ren [(12,2),(13,3)] (K78 b)),al,ak,am,aj,R,((hE.stp (S3.tr (S7.tr (S11.tr (S15.tr (S25.tr (S43.tr (S50.tr (S57.tr (S66.tr (S79.tr S86)))))))))) R R).map (ren [(12,2),(13,3)]) R R),(((f76.mx (ck (bH _) _) m80 R (R:10+2=12)).stp S86 R R).map (ren [(12,2),(13,3)]) R R),(((f77.mx Pair.no154 m80 R (R:10+3=13)).stp S86 R R).map (ren [(12,2),(13,3)]) R R)⟩
 refine JT λh=>Jx R (Je [2,1,2] R (Jf R (bI (parts:=[]) (cells:=[.slice none 0 0,.slice none 0 0]) R R (by kernel_rfl)) (Jj1 (κ:=K49) 5 (vc:=[.slice none 0 0,.slice none 0 0]) R R R R R R R Z100 R R (f16.stp (S25.tr (S43.tr S50)) R R) R λw53 S54 f55=>⟨tv,Jb 1 R (Ju (Jw (Ja2 (l:=[.cell 6 100,.tmp 7]) V115 (bL R f55 I100 Z100 R (Jp2 R R)) R ?_)))⟩)))
 cases h
 exact⟨K49,none,0,none,0,R,(hE.stp (S3.tr (S7.tr (S11.tr (S15.tr (S25.tr (S43.tr (S50.tr S54))))))) R R),Ow.nil,Ow.nil⟩
theorem oy {w:World}{κ:Col}{p0:Sig}{aw aC aP aN}{p1:Det}(g1_0:Rd (Rp.sl (Rp.int .i64)) κ w 0 aw aC p1.Next) (g1_1:Rd Pair.rp κ w 0 aP aN p1.Pairs){r:Arena×(List Pair)×Bool}(h:dc p0 p1=some r):Ret Tryz.prog 69 [.agg #[vi p0.In,vi p0.Out],.agg #[.slice aw p1.Next.length aC,.slice aP p1.Pairs.length aN]] w (λv w'=>∃(κ':Col) (ra0:Option Addr) (ru0:Nat) (ra1:Option Addr) (ru1:Nat) (ra2:Option Addr) (ru2:Nat),v= .tuple #[.agg #[.slice ra0 r.1.Owner.length ru0,.slice ra1 r.1.Next.length ru1],.slice ra2 r.2.1.length ru2,.bool r.2.2]/\Ent κ w κ' w'/\Oc E6 2 κ' w' 2 ra0 ru0 r.1.Owner/\Oc (Ep.fz (Rp.sl (Rp.int .i64))) 29 κ' w' 3 ra1 ru1 r.1.Next/\Oc Pair.ep154 154 κ' w' 4 ra2 ru2 r.2.1):=by
 unfold dc at h
 refine Ret.enter F69 R N69 R ?_
 dsimp only[envOf]
 have hE:=Ent.refl κ w
 refine Je [1,1,1,2,2] R (Jf1 (κ:=κ) 2 R R R R R R R λb2 w1 K2 S3 f4=>⟨tv,Jf1 (κ:=K2) 3 R R R R R R R λb3 w5 K6 S7 f8=>⟨tv,Jg1 (κ:=K6) 4 R R R R R X104 R λb4 w9 K10 S11 f12=>⟨tv,Jb 2 R (Jq (Je [1,1,1,2] R ?_))⟩⟩⟩)
 have f13:=f4.stp (S7.tr S11) R R
 refine Jl tv R R R R (Jd2 (cs:=[vi p0.In,vi p0.Out]) I25 Z25 R R R (haE f13.cells)) ?_
 have f14:=f8.stp S11 R R
 refine Jl tv R R R R (Jd2 (cs:=[.slice aw p1.Next.length aC,.slice aP p1.Pairs.length aN]) I100 Z100 R R R (haE f14.cells)) (Ob h λx19 hx19 h=>?_)
 have f15:=g1_0.stp (S3.tr (S7.tr S11)) R R
 have f16:=g1_1.stp (S3.tr (S7.tr S11)) R R
 refine Jh R R R C117 (lN (κ:=Mk K10) (p0:=p0) (p1:=p1) (Ji3 f15) (Ji3 f16) hx19) ?_
 rintro _ w17 ⟨k18,rfl,e19⟩
 obtain⟨K20,S21,m22⟩:=Ji e19 5 R
 refine⟨tv,Jb 1 R ?_⟩
 revert h
 cases ht24:(!x19)
 refine JF λh=>Jy R (Js (Jp (Je [2,1,2,2] R (Jd3 R U100 R Z26 ?_))))
 have f35:=f14.stp S21 R R
 refine Jb3 R I26 (f35.ld 0 R R) (Jf R (Je2 U26 R R) (Jb 1 R (Je [1,1,2] R ?_)))
 have f36:=f13.stp S21 R R
 refine Jl tv R R R R (Jd2 (cs:=[vi p0.In,vi p0.Out]) I25 Z25 R R R (haE f36.cells)) (Ob h λx27 hx27 h=>Jh R R R C72 (kJ (κ:=Mk K20) (p0:=p0) hx27) ?_)
 rintro _ w37 ⟨k38,rfl,e39⟩
 obtain⟨K40,S41,m42⟩:=Ji e39 7 R
 refine⟨tv,Jb 1 R (Je [2,1,1] R (Jf R (bI (parts:=[]) (cells:=[.slice none 0 0,.slice none 0 0]) R R (by kernel_rfl)) (Jg1 (κ:=K40) 9 R R R R R X104 R λb9 w44 K45 S46 f47=>⟨tv,Jj1 (κ:=K45) 9 (vc:=[.slice none 0 0,.slice none 0 0]) R R R R R R R Z104 R R f47 R λw48 S49 f50=>⟨tv,Jd (Jq (Je3 R ?_))⟩⟩)))⟩
 have hN51:(p1.Next.length:Int)<=9223372036854775807:=f15.len_le
 refine Ob h λq2 hq53 hK52=>?_
 clear h
 refine Jx1 (λL w'=>∃κ',∃s3:(List Int)×(List (List Int)),∃ar aD aM aE,L=[(2,.pointer (some ⟨b2,0,none⟩)),(3,.pointer (some ⟨b3,0,none⟩)),(4,.pointer (some ⟨b4,0,none⟩)),(7,vi (p1.Next.length:Int)),(8,vi x27),(9,.pointer (some ⟨b9,0,none⟩))]/\Stp [9,10,11,12,14] K45 w48 κ' w'/\Oc E6 2 κ' w' 10 ar aD s3.1/\Oc (Ep.fz (Rp.sl (Rp.int .i64))) 29 κ' w' 11 aM aE s3.2/\Bc κ' w' 9 b9 104 [.slice ar s3.1.length aD,.slice aM s3.2.length aE]/\q2=it s3) ?_ ?_
 refine Jv (Jy1 (λk L w'=>∃κ' v10,∃s1:(List Int)×(List (List Int)),∃aH ax ai an,L=[(2,.pointer (some ⟨b2,0,none⟩)),(3,.pointer (some ⟨b3,0,none⟩)),(4,.pointer (some ⟨b4,0,none⟩)),(7,vi (p1.Next.length:Int)),(8,vi x27),(9,.pointer (some ⟨b9,0,none⟩)),(10,vi v10)]/\Stp [9,10,11,12,14] K45 w48 κ' w'/\Oc E6 2 κ' w' 10 aH ax s1.1/\Oc (Ep.fz (Rp.sl (Rp.int .i64))) 29 κ' w' 11 ai an s1.2/\Bc κ' w' 9 b9 104 [.slice aH s1.1.length ax,.slice ai s1.2.length an]/\0<=v10/\t5 ((p1.Next.length:Int)-v10)=k/\cntM (dF p1 x27) k v10 s1=some q2) ⟨_,_,⟨K45,0,((([]:List Int):(List Int)),(([]:List (List Int)):(List (List Int)))),none,0,none,0,R,Jj3,Ow.nil,Ow.nil,f50,(by decide),(by simp),hq53⟩,(KM R)⟩ ?_)
 rintro k _ w60 ⟨K61,v10,s1,aH,ax,ai,an,rfl,S62,f63,f64,f65,hj51,hJ51,h⟩
 rcases k with _ | k
 have hk66:=h;obtain⟨o51,h⟩:=bO (it (sh s1):(Arena×(List Pair)×Bool)⊕(((List Int)×(List (List Int)))⊕((List Int)×(List (List Int)))))
 have hc51:decide (v10<(p1.Next.length:Int))=false:=Jo2 (by omega)
 refine Jq (Je3 R (Jw2 R hc51 (Jc1 (Jt (Jt ?_)))))
 cases h
 have h:=hk66
 refine Jb1 ?_
 cases h
 exact Jw1 _ ⟨K61,((s1.1:(List Int)),(s1.2:(List (List Int)))),aH,ax,ai,an,R,S62.wk R,f63,f64,f65,R⟩ (KM R)
 obtain⟨o51,h,hk66⟩:=BI h;unfold dF at h
 have hc51:decide (v10<(p1.Next.length:Int))=true:=Jn2 (by omega)
 refine Jq (Je3 R (Jv2 R hc51 (Js (Jp (Jq (Jv (Je [1,2] R (Jo1 (κ:=K61) (E:=E6) 12 R R R R R Y29 Tryzinfo2 R λbd bj w67 K68 S69 f70=>⟨tv,Jb 1 R (Jq (Je3 R (Ob h λ_ hr71 h=>?_)))⟩))))))))
 have hN71:=iz hr71
 refine Ob h λq5 hq73 hK72=>?_
 clear h
 refine Jx1 (λL w'=>∃κ',∃s6:(List Int),∃ae am,L=[(2,.pointer (some ⟨b2,0,none⟩)),(3,.pointer (some ⟨b3,0,none⟩)),(4,.pointer (some ⟨b4,0,none⟩)),(7,vi (p1.Next.length:Int)),(8,vi x27),(9,.pointer (some ⟨b9,0,none⟩)),(10,vi v10),(11,.slice ae s6.length am)]/\Stp [12] K68 w67 κ' w'/\Oc E6 2 κ' w' 12 ae am s6/\q5=it s6) ?_ ?_
 refine Jv (Jy1 (λk L w'=>∃κ' v12,∃s4:(List Int),∃aG ap,L=[(2,.pointer (some ⟨b2,0,none⟩)),(3,.pointer (some ⟨b3,0,none⟩)),(4,.pointer (some ⟨b4,0,none⟩)),(7,vi (p1.Next.length:Int)),(8,vi x27),(9,.pointer (some ⟨b9,0,none⟩)),(10,vi v10),(11,.slice aG s4.length ap),(12,vi v12)]/\Stp [12] K68 w67 κ' w'/\Oc E6 2 κ' w' 12 aG ap s4/\0<=v12/\t5 (x27-v12)=k/\cntM (dI p1 x27 v10) k v12 s4=some q5) ⟨_,_,⟨K68,0,(([]:List Int):(List Int)),bd,bj,R,Jj3,f70,(by decide),(by simp),hq73⟩,(KM R)⟩ ?_)
 rintro k _ w78 ⟨K79,v12,s4,aG,ap,rfl,S80,f81,hj71,hJ71,h⟩
 rcases k with _ | k
 have hk82:=h;obtain⟨o71,h⟩:=bO (it (sh s4):(Arena×(List Pair)×Bool)⊕(((List Int))⊕((List Int))))
 have hc71:decide (v12<x27)=false:=Jo2 (by omega)
 refine Jq (Je3 R (Jw2 R hc71 (Jc1 (Jt (Jt ?_)))))
 cases h
 have h:=hk82
 refine Jb1 ?_
 cases h
 exact Jw1 _ ⟨K79,(s4:(List Int)),aG,ap,R,S80.wk R,f81,R⟩ (KM R)
 obtain⟨o71,h,hk82⟩:=BI h;unfold dI at h
 have hc71:decide (v12<x27)=true:=Jn2 (by omega)
 refine Jq (Je3 R (Jv2 R hc71 (Js (Jp (Jq (Jv (Jh3 [2,2,2,2,2,2,2,2,1,1,2] 8 R (Jn1 (κ:=K79) (E:=E6) 13 [] (parts:=[(0,.tmp 47)]) (cells:=[vi (IntKind.i64.wrap ((IntKind.i64.wrap ((p1.Next.length:Int)+(IntKind.i64.wrap (v10 * x27))))+v12))]) (xs:=([(IntKind.i64.wrap ((IntKind.i64.wrap ((p1.Next.length:Int)+(IntKind.i64.wrap (v10 * x27))))+v12))]:List Int)) R R R R R R Y29 Tryzinfo2 R R R R R R R R R R ⟨[vi (IntKind.i64.wrap ((IntKind.i64.wrap ((p1.Next.length:Int)+(IntKind.i64.wrap (v10 * x27))))+v12))],[],Zl K79 w78 [],Zl K79 w78 [],R,Zl.sp (l1:=[]) (l2:=[]) R,Zl.sr (l1:=[]) (l2:=[]),R,R⟩ λbw br w83 K84 S85 f86=>⟨tv,Ob h λx49 hx49 h=>Jm1 (κ:=K84) (E:=E6) 12 [] R R R R R R R R R Y29 Tryzinfo2 R R R R (f81.stp S85 R R) (Sl.srcP (bT _) f86.rdc) bJ hx49 R λbg bk w88 K89 S90 f91=>⟨tv,Jc 1 R (Jz (Jp (Jf3 R ?_)))⟩⟩))))))))
 have hw71:hV .i64 (v12+1)=v12+1:=wr1 hj71 (Jm2 hc71) hN71
 rw[hw71]
 have hc71:=Jm2 hc71
 cases h
 exact Jz1 λa ha=>⟨k,_,Ja3 _,⟨K89,v12+1,(x49:(List Int)),bg,bk,R,(S80.tr (S85.tr S90)).wk R,f91,by omega,by omega,hk82⟩,(ha.mm R)⟩
 rintro _ w74 ⟨K75,s6,ae,am,rfl,S76,f77,rfl⟩
 have h:=hK72
 dsimp only[aft]at h
 refine Jp (Je [2,1,1,1,2,1] R (Jd3 R U104 R Z29 ?_))
 have f92:=f65.stp (S69.tr S76) R R
 refine Jb3 R I29 (f92.ld 0 R R) (Jn1 (κ:=K75) (E:=E6) 13 [] (parts:=[(0,.const (vi 1))]) (cells:=[vi 1]) (xs:=([1]:List Int)) R R R R R R Y29 Tryzinfo2 R R R R R R R R R R ⟨[vi 1],[],Zl K75 w74 [],Zl K75 w74 [],R,Zl.sp (l1:=[]) (l2:=[]) R,Zl.sr (l1:=[]) (l2:=[]),R,R⟩ λbs bt w93 K94 S95 f96=>⟨tv,Ob h λx53 hx53 h=>Jm1 (κ:=K94) (E:=E6) 10 [] R R R R R R R R R Y29 Tryzinfo2 R R R R (f63.stp (S69.tr (S76.tr S95)) R R) (Sl.srcP (bT _) f96.rdc) bJ hx53 R λaU aT w98 K99 S100 f101=>⟨tv,Jd3 R U104 R Z29 (Ji1 (κ:=K99) 9 (off:=0) (vc:=[.slice aU x53.length aT]) (cs':=[.slice aU x53.length aT,.slice ai s1.2.length an]) R R R R R R R Z29 R R (f92.stp (S95.tr S100) R R) R R λw103 S104 f105=>⟨tv,Jd (Ja [2,1,2,1,1,2,1] R (Jd3 R U104 R Z26 (Jb3 R I26 (f105.ld 1 R R) (Jn 1 R ?_))))⟩)⟩⟩)
 obtain⟨K107,S108,z109⟩:=dL K99 w103 12
 refine Jn1 (κ:=K107) (E:=(Ep.fz (Rp.sl (Rp.int .i64)))) 14 [] (parts:=[(0,.tmp 57)]) (cells:=[.slice ae s6.length am]) (xs:=([s6]:List (List Int))) R R R R R R Y26 Tryzinfo29 R R R R R R R R R R ⟨[.slice ae s6.length am],[],Zl K107 w103 [],Zl K107 w103 [],R,Zl.sp (l1:=[]) (l2:=[]) R,Zl.sr (l1:=[]) (l2:=[]),⟨_,_,R,(Sl.z1 (Sl.st z109 (f77.stp (S95.tr (S100.tr S104)) R R).rdc))⟩,R⟩ λbm bq w111 K112 S113 f114=>⟨tv,Ob h λx59 hx59 h=>Jm1 (κ:=K112) (E:=(Ep.fz (Rp.sl (Rp.int .i64)))) 11 [14] R R R R R R R R R Y26 Tryzinfo29 R R R R (f64.stp (S69.tr (S76.tr (S95.tr (S100.tr (S104.tr (S108.tr S113)))))) R R) f114.src (cZ R) hx59 R λaV aX w116 K117 S118 f119=>⟨tv,Jd3 R U104 R Z26 (Ji1 (κ:=K117) 9 (off:=1) (vc:=[.slice aV x59.length aX]) (cs':=[.slice aU x53.length aT,.slice aV x59.length aX]) R R R R R R R Z26 R R (f105.stp (S108.tr (S113.tr S118)) R R) R R λw121 S122 f123=>⟨tv,Jo (Jz (Jp (Jf3 R ?_)))⟩)⟩⟩
 have hw51:hV .i64 (v10+1)=v10+1:=wr1 hj51 (Jm2 hc51) hN51
 rw[hw51]
 have hc51:=Jm2 hc51
 cases h
 exact Jz1 λa ha=>⟨k,_,Ja3 _,⟨K117,v10+1,((x53:(List Int)),(x59:(List (List Int)))),aU,aT,aV,aX,R,(S62.tr (S69.tr (S76.tr (S95.tr (S100.tr (S104.tr (S108.tr (S113.tr (S118.tr S122))))))))).wk R,(f101.stp (S104.tr (S108.tr (S113.tr (S118.tr S122)))) R R),(f119.stp S122 R R),f123,by omega,by omega,hk66⟩,(ha.mm R)⟩
 rintro _ w54 ⟨K55,s3,ar,aD,aM,aE,rfl,S56,f57,f58,f59,rfl⟩
 have h:=hK52
 dsimp only[aft]at h
 refine Jp (Jq (Je3 R ?_))
 have hN126:(p1.Next.length:Int)<=9223372036854775807:=f15.len_le
 refine Ob h λq8 hq128 hK127=>?_
 clear h
 refine Jx1 (λL w'=>∃κ',∃s9:(List Int)×(List (List Int)),∃ac ad aa ab,L=[(3,.pointer (some ⟨b3,0,none⟩)),(4,.pointer (some ⟨b4,0,none⟩)),(9,.pointer (some ⟨b9,0,none⟩))]/\Stp [9,10,11,16] K55 w54 κ' w'/\Oc E6 2 κ' w' 10 ac ad s9.1/\Oc (Ep.fz (Rp.sl (Rp.int .i64))) 29 κ' w' 11 aa ab s9.2/\Bc κ' w' 9 b9 104 [.slice ac s9.1.length ad,.slice aa s9.2.length ab]/\q8=it s9) ?_ ?_
 refine Jv (Jy1 (λk L w'=>∃κ' v13,∃s7:(List Int)×(List (List Int)),∃ak al ah ao,L=[(2,.pointer (some ⟨b2,0,none⟩)),(3,.pointer (some ⟨b3,0,none⟩)),(4,.pointer (some ⟨b4,0,none⟩)),(7,vi (p1.Next.length:Int)),(8,vi x27),(9,.pointer (some ⟨b9,0,none⟩)),(13,vi v13)]/\Stp [9,10,11,16] K55 w54 κ' w'/\Oc E6 2 κ' w' 10 ak al s7.1/\Oc (Ep.fz (Rp.sl (Rp.int .i64))) 29 κ' w' 11 ah ao s7.2/\Bc κ' w' 9 b9 104 [.slice ak s7.1.length al,.slice ah s7.2.length ao]/\0<=v13/\t5 ((p1.Next.length:Int)-v13)=k/\cntM (di p0 p1 x27) k v13 s7=some q8) ⟨_,_,⟨K55,0,((s3.1:(List Int)),(s3.2:(List (List Int)))),ar,aD,aM,aE,R,Jj3,f57,f58,f59,(by decide),(by simp),hq128⟩,(KM R)⟩ ?_)
 rintro k _ w135 ⟨K136,v13,s7,ak,al,ah,ao,rfl,S137,f138,f139,f140,hj126,hJ126,h⟩
 rcases k with _ | k
 have hk141:=h;obtain⟨o126,h⟩:=bO (it (sh s7):(Arena×(List Pair)×Bool)⊕(((List Int)×(List (List Int)))⊕((List Int)×(List (List Int)))))
 have hc126:decide (v13<(p1.Next.length:Int))=false:=Jo2 (by omega)
 refine Jq (Je3 R (Jw2 R hc126 (Jc1 (Jt (Jt ?_)))))
 cases h
 have h:=hk141
 refine Jb1 ?_
 cases h
 exact Jw1 _ ⟨K136,((s7.1:(List Int)),(s7.2:(List (List Int)))),ak,al,ah,ao,R,S137.wk R,f138,f139,f140,R⟩ (KM R)
 obtain⟨o126,h,hk141⟩:=BI h;unfold di at h
 have hc126:decide (v13<(p1.Next.length:Int))=true:=Jn2 (by omega)
 refine Jq (Je3 R (Jv2 R hc126 (Js (Jp (Jq (Jv (Je3 R (Ob h λ_ hr142 h=>?_))))))))
 have hN142:=iz hr142
 refine Ob h λq11 hq144 hK143=>?_
 clear h
 refine Jx1 (λL w'=>∃κ',∃s12:(List Int)×(List (List Int)),∃aO ay az au,L=[(2,.pointer (some ⟨b2,0,none⟩)),(3,.pointer (some ⟨b3,0,none⟩)),(4,.pointer (some ⟨b4,0,none⟩)),(7,vi (p1.Next.length:Int)),(8,vi x27),(9,.pointer (some ⟨b9,0,none⟩)),(13,vi v13)]/\Stp [9,10,11,16] K136 w135 κ' w'/\Oc E6 2 κ' w' 10 aO ay s12.1/\Oc (Ep.fz (Rp.sl (Rp.int .i64))) 29 κ' w' 11 az au s12.2/\Bc κ' w' 9 b9 104 [.slice aO s12.1.length ay,.slice az s12.2.length au]/\q11=it s12) ?_ ?_
 refine Jv (Jy1 (λk L w'=>∃κ' v14,∃s10:(List Int)×(List (List Int)),∃aI aS af aj,L=[(2,.pointer (some ⟨b2,0,none⟩)),(3,.pointer (some ⟨b3,0,none⟩)),(4,.pointer (some ⟨b4,0,none⟩)),(7,vi (p1.Next.length:Int)),(8,vi x27),(9,.pointer (some ⟨b9,0,none⟩)),(13,vi v13),(14,vi v14)]/\Stp [9,10,11,16] K136 w135 κ' w'/\Oc E6 2 κ' w' 10 aI aS s10.1/\Oc (Ep.fz (Rp.sl (Rp.int .i64))) 29 κ' w' 11 af aj s10.2/\Bc κ' w' 9 b9 104 [.slice aI s10.1.length aS,.slice af s10.2.length aj]/\0<=v14/\t5 (x27-v14)=k/\cntM (dD p0 p1 v13) k v14 s10=some q11) ⟨_,_,⟨K136,0,((s7.1:(List Int)),(s7.2:(List (List Int)))),ak,al,ah,ao,R,Jj3,f138,f139,f140,(by decide),(by simp),hq144⟩,(KM R)⟩ ?_)
 rintro k _ w151 ⟨K152,v14,s10,aI,aS,af,aj,rfl,S153,f154,f155,f156,hj142,hJ142,h⟩
 rcases k with _ | k
 have hk157:=h;obtain⟨o142,h⟩:=bO (it (sh s10):(Arena×(List Pair)×Bool)⊕(((List Int)×(List (List Int)))⊕((List Int)×(List (List Int)))))
 have hc142:decide (v14<x27)=false:=Jo2 (by omega)
 refine Jq (Je3 R (Jw2 R hc142 (Jc1 (Jt (Jt ?_)))))
 cases h
 have h:=hk157
 refine Jb1 ?_
 cases h
 exact Jw1 _ ⟨K152,((s10.1:(List Int)),(s10.2:(List (List Int)))),aI,aS,af,aj,R,S153.wk R,f154,f155,f156,R⟩ (KM R)
 obtain⟨o142,h,hk157⟩:=BI h;unfold dD at h
 have hc142:decide (v14<x27)=true:=Jn2 (by omega)
 refine Jq (Je3 R (Jv2 R hc142 (Js (Jp (Jq (Jv (Je [2,1,1,1,2,1] R (Jd3 R U104 R Z29 (Jb3 R I29 (f156.ld 0 R R) (Jn1 (κ:=K152) (E:=E6) 12 [] (parts:=[(0,.const (vi 0))]) (cells:=[vi 0]) (xs:=([0]:List Int)) R R R R R R Y29 Tryzinfo2 R R R R R R R R R R ⟨[vi 0],[],Zl K152 w151 [],Zl K152 w151 [],R,Zl.sp (l1:=[]) (l2:=[]) R,Zl.sr (l1:=[]) (l2:=[]),R,R⟩ λbl bu w158 K159 S160 f161=>⟨tv,Ob h λx74 hx74 h=>Jm1 (κ:=K159) (E:=E6) 10 [] R R R R R R R R R Y29 Tryzinfo2 R R R R (f154.stp S160 R R) (Sl.srcP (bT _) f161.rdc) bJ hx74 R λav aA w163 K164 S165 f166=>⟨tv,Jd3 R U104 R Z29 (Ji1 (κ:=K164) 9 (off:=0) (vc:=[.slice av x74.length aA]) (cs':=[.slice av x74.length aA,.slice af s10.2.length aj]) R R R R R R R Z29 R R (f156.stp (S160.tr S165) R R) R R λw168 S169 f170=>⟨tv,Jd (Js1 (κ:=K164) [2,3,9] (some 10) [(0,2),(4,2),(5,2),(1,0),(2,0),(3,0),(6,1),(7,1),(8,1),(9,2)] [(10,1)] (by kernel_rfl) (by kernel_rfl) λw172 S171=>Jd3 R U104 R Z26 (Jn 2 R ?_))⟩)⟩⟩))))))))))
 have f173:=f170.stp S171 R R
 have S001:=(S21.tr (S41.tr (S46.tr (S49.tr (S56.tr (S137.tr (S153.tr (S160.tr (S165.tr (S169.tr S171))))))))))
 have S002:=(S41.tr (S46.tr (S49.tr (S56.tr (S137.tr (S153.tr (S160.tr (S165.tr (S169.tr S171)))))))))
 refine Jg R (Jc2 I26 R R (hvC (f173.ld 1 R R) R)) (Jg R (Jd2 (cs:=[vi p0.In,vi p0.Out]) I25 Z25 R R R (haC (f36.stp S002 R R).cells R)) (Jg R (Jd2 (cs:=[.slice aw p1.Next.length aC,.slice aP p1.Pairs.length aN]) I100 Z100 R R R (haC (f35.stp S002 R R).cells R)) (Ob h λx82 hx82 h=>Jh R R R C118 (oL (κ:=λb=>mp [] 1 (K164 b)) (p0:=p0) (p1:=p1) (Jl2 (f15.stp S001 R R) (mp [] 1) R R) (Jl2 (f16.stp S001 R R) (mp [] 1) R R) hx82) ?_)))
 rintro _ w178 ⟨k179,aZ,ba,rfl,e180,f181⟩
 obtain⟨K182,S183,m184,z185⟩:=Jj e180 13 R
 refine⟨(S183.cl R),Jn1 (κ:=K182) (E:=(Ep.fz (Rp.sl (Rp.int .i64)))) 16 [] (parts:=[(0,.tmp 82)]) (cells:=[.slice aZ x82.length ba]) (xs:=([x82]:List (List Int))) R R R R R R Y26 Tryzinfo29 R R R R R R R R R R ⟨[.slice aZ x82.length ba],[],Zl K182 w178 [],Zl K182 w178 [],R,Zl.sp (l1:=[]) (l2:=[]) R,Zl.sr (l1:=[]) (l2:=[]),⟨_,_,R,(Sl.z1 (f181.mx z185))⟩,R⟩ λbp bv w187 K188 S189 f190=>⟨((S183.tr S189).cl R),Ob h λx84 hx84 h=>Jm1 (κ:=K188) (E:=(Ep.fz (Rp.sl (Rp.int .i64)))) 11 [16] R R R R R R R R R Y26 Tryzinfo29 R R R R (f155.stp (S160.tr (S165.tr (S169.tr (S171.tr (S183.tr S189))))) R R) f190.src (cZ R) hx84 R λaW aY w192 K193 S194 f195=>⟨((S183.tr (S189.tr S194)).cl R),Jd3 R U104 R Z26 (Jt1 (Ji1 (κ:=K193) 9 (off:=1) (vc:=[.slice aW x84.length aY]) (cs':=[.slice av x74.length aA,.slice aW x84.length aY]) R R R R R R R Z26 R R (f173.stp (S183.tr (S189.tr S194)) R R) R R λw197 S198 f199=>⟨tv,Jo (Jz (Jp (Jf3 R ?_)))⟩))⟩⟩⟩
 have hw142:hV .i64 (v14+1)=v14+1:=wr1 hj142 (Jm2 hc142) hN142
 rw[hw142]
 have hc142:=Jm2 hc142
 cases h
 exact Jz1 λa ha=>⟨k,_,Ja3 _,⟨K193,v14+1,((x74:(List Int)),(x84:(List (List Int)))),av,aA,aW,aY,R,(S153.tr (S160.tr (S165.tr (S169.tr (S171.tr (S183.tr (S189.tr (S194.tr S198)))))))).wk R,(f166.stp (S169.tr (S171.tr (S183.tr (S189.tr (S194.tr S198))))) R R),(f195.stp S198 R R),f199,by omega,by omega,hk157⟩,(ha.mm R)⟩
 rintro _ w145 ⟨K146,s12,aO,ay,az,au,rfl,S147,f148,f149,f150,rfl⟩
 have h:=hK143
 dsimp only[aft]at h
 refine Jz (Jp (Jf3 R ?_))
 have hw126:hV .i64 (v13+1)=v13+1:=wr1 hj126 (Jm2 hc126) hN126
 rw[hw126]
 have hc126:=Jm2 hc126
 cases h
 exact Jz1 λa ha=>⟨k,_,Ja3 _,⟨K146,v13+1,((s12.1:(List Int)),(s12.2:(List (List Int)))),aO,ay,az,au,R,(S137.tr S147).wk R,f148,f149,f150,by omega,by omega,hk141⟩,(ha.mm R)⟩
 rintro _ w129 ⟨K130,s9,ac,ad,aa,ab,rfl,S131,f132,f133,f134,rfl⟩
 have h:=hK127
 dsimp only[aft]at h
 refine Jp (Je [1,2] R (Jo1 (κ:=K130) (E:=Pair.ep154) 12 R R R R R Y98 Tryzinfo154 R λbh bf w202 K203 S204 f205=>⟨tv,Jb 1 R (Jq (Je3 R ?_))⟩))
 have hN206:(p1.Pairs.length:Int)<=9223372036854775807:=f16.len_le
 refine Ob h λq14 hq208 hK207=>?_
 clear h
 refine Jx1 (λL w'=>∃κ',∃s15:(List Pair),∃aJ aR,L=[(4,.pointer (some ⟨b4,0,none⟩)),(9,.pointer (some ⟨b9,0,none⟩)),(15,.slice aJ s15.length aR)]/\Stp [12,15,18,19] K203 w202 κ' w'/\Oc Pair.ep154 154 κ' w' 12 aJ aR s15/\q14=it s15) ?_ ?_
 refine Jv (Jy1 (λk L w'=>∃κ' v16,∃s13:(List Pair),∃aL aQ,L=[(3,.pointer (some ⟨b3,0,none⟩)),(4,.pointer (some ⟨b4,0,none⟩)),(9,.pointer (some ⟨b9,0,none⟩)),(15,.slice aL s13.length aQ),(16,vi v16)]/\Stp [12,15,18,19] K203 w202 κ' w'/\Oc Pair.ep154 154 κ' w' 12 aL aQ s13/\0<=v16/\t5 ((p1.Pairs.length:Int)-v16)=k/\cntM (dp p1) k v16 s13=some q14) ⟨_,_,⟨K203,0,(([]:List Pair):(List Pair)),bh,bf,R,Jj3,f205,(by decide),(by simp),hq208⟩,(KM R)⟩ ?_)
 rintro k _ w213 ⟨K214,v16,s13,aL,aQ,rfl,S215,f216,hj206,hJ206,h⟩
 rcases k with _ | k
 have hk217:=h;obtain⟨o206,h⟩:=bO (it (sh s13):(Arena×(List Pair)×Bool)⊕(((List Pair))⊕((List Pair))))
 have hc206:decide (v16<(p1.Pairs.length:Int))=false:=Jo2 (by omega)
 refine Jq (Jg3 [2,2,1,2,2] 1 R (Jd3 R U100 R Z98 (Jb3 R I98 ((f35.stp (S41.tr (S46.tr (S49.tr (S56.tr (S131.tr (S204.tr S215)))))) R R).ld 1 R R) (Jf R (Je2 U98 R R) (Jb 1 R (Jw2 R hc206 (Jc1 (Jt (Jt ?_)))))))))
 cases h
 have h:=hk217
 refine Jb1 ?_
 cases h
 exact Jw1 _ ⟨K214,(s13:(List Pair)),aL,aQ,R,S215.wk R,f216,R⟩ (KM R)
 obtain⟨o206,h,hk217⟩:=BI h;unfold dp at h
 have hc206:decide (v16<(p1.Pairs.length:Int))=true:=Jn2 (by omega)
 refine Jq (Jg3 [2,2,1,2,2] 1 R (Jd3 R U100 R Z98 ?_))
 have f219:=f35.stp (S41.tr (S46.tr (S49.tr (S56.tr (S131.tr (S204.tr S215)))))) R R
 refine Jb3 R I98 (f219.ld 1 R R) (Jf R (Je2 U98 R R) (Jb 1 R (Jv2 R hc206 (Js (Jp (Jq (Jv (Js1 (κ:=K214) [0,3] none [(0,2),(1,2),(3,2),(8,2),(10,2),(2,0),(4,2),(5,2),(6,0),(9,0),(11,2),(12,2),(13,0),(7,1),(14,1),(15,2),(16,1),(17,1),(18,2)] [] (by kernel_rfl) (by kernel_rfl) λw221 S220=>Jn 1 R (Jd3 R U100 R Z98 (Jn 1 R (Jd3 R U100 R Z98 (Jn 1 R ?_))))))))))))
 have f222:=f219.stp S220 R R
 refine Jg R (Jc2 I98 R R (hvC (f222.ld 1 R R) R)) (Ob h λx98 hx98 h=>Jc3 R f16 hx98 U98 Z154 (Jd3 R U154 R Z29 ?_))
 have f223:=f16.stp (S21.tr (S41.tr (S46.tr (S49.tr (S56.tr (S131.tr (S204.tr (S215.tr S220)))))))) R R
 obtain⟨cse224,hre224,hle224⟩:=(f223).gSt hx98
 obtain⟨ae224_0,ue224_0,ae224_1,ue224_1,rfl,fe224_0,fe224_1⟩:=Pair.un hre224
 refine Jg R (Jc2 I29 R R (hvC (λw' hw'=>hle224 w' hw' 0 _ R) R)) (Jg R (Jc2 I98 R R (hvC (f222.ld 1 R R) R)) (Ob h λx105 hx105 h=>Jc3 R f223 hx105 U98 Z154 (Jd3 R U154 R Z29 ?_)))
 obtain⟨cse225,hre225,hle225⟩:=(f223).gSt hx105
 obtain⟨ae225_0,ue225_0,ae225_1,ue225_1,rfl,fe225_0,fe225_1⟩:=Pair.un hre225
 refine Jg R (Jc2 I29 R R (hvC (λw' hw'=>hle225 w' hw' 1 _ R) R)) (Ob h λx101 hx101 h=>Jh R R R C56 (db (κ:=Mk K214) (Ji3 fe224_0) hx101) ?_)
 rintro _ w226 ⟨k227,aK,aq,rfl,e228,f229⟩
 obtain⟨K230,S231,m232⟩:=Ji e228 13 R
 refine⟨(S231.cl R),Ob h λx108 hx108 h=>Jh R R R C56 (db (κ:=Mk K230) (Ji3 (fe225_1.stp S231 R R)) hx108) ?_⟩
 rintro _ w236 ⟨k237,aB,aF,rfl,e238,f239⟩
 obtain⟨K240,S241,m242⟩:=Ji e238 16 R
 have S003:=(S231.tr S241)
 refine⟨(S003.cl R),Jf R (bI (parts:=[(0,.tmp 101),(1,.tmp 108)]) (cells:=[.slice aK x101.length aq,.slice aB x108.length aF]) R R (by kernel_rfl)) (Jn1 (κ:=K240) (E:=Pair.ep154) 19 [15,18] (parts:=[(0,.tmp 109)]) (cells:=[.slice aK x101.length aq,.slice aB x108.length aF]) (xs:=([(⟨x101,x108⟩:Pair)]:List Pair)) R R R R R R Y98 Tryzinfo154 R R R R R R R R R R ⟨[.slice aK x101.length aq,.slice aB x108.length aF],[],Zl K240 w236 [15,18],Zl K240 w236 [],R,Zl.sp (l1:=[15,18]) (l2:=[]) R,Zl.sr (l1:=[15,18]) (l2:=[]),⟨[.slice aK x101.length aq],[.slice aB x108.length aF],Zl K240 w236 [15],Zl K240 w236 [18],R,Zl.sp (l1:=[15]) (l2:=[18]) R,Zl.sr (l1:=[15]) (l2:=[18]),⟨_,_,R,((f229.mx (bH _) m232 R (R:13+2=15)).stp S241 R R)⟩,⟨_,_,R,(f239.mx (bH _) m242 R (R:16+2=18))⟩⟩,R⟩ λbn bo w246 K247 S248 f249=>⟨((S003.tr S248).cl R),Ob h λx111 hx111 h=>Jm1 (κ:=K247) (E:=Pair.ep154) 12 [19] R R R R R R R R R Y98 Tryzinfo154 R R R R (f216.stp (S220.tr (S231.tr (S241.tr S248))) R R) f249.src (cZ R) hx111 R λbi bc w251 K252 S253 f254=>⟨((S003.tr (S248.tr S253)).cl R),Jn 1 R (Jt1 (Jo (Jz (Jp (Jf3 R ?_)))))⟩⟩)⟩
 have hw206:hV .i64 (v16+1)=v16+1:=wr1 hj206 (Jm2 hc206) hN206
 rw[hw206]
 have hc206:=Jm2 hc206
 cases h
 exact Jz1 λa ha=>⟨k,_,Ja3 _,⟨K252,v16+1,(x111:(List Pair)),bi,bc,R,(S215.tr (S220.tr (S231.tr (S241.tr (S248.tr S253))))).wk R,f254,by omega,by omega,hk217⟩,(ha.mm R)⟩
 rintro _ w209 ⟨K210,s15,aJ,aR,rfl,S211,f212,rfl⟩
 have h:=hK207
 dsimp only[aft]at h
 refine Jp (Je [1,2,1,2,2] R (Jl tv R R R R (Jd2 (cs:=[.slice ac s9.1.length ad,.slice aa s9.2.length ab]) I104 Z104 R R R (haE (f134.stp (S204.tr S211) R R).cells)) (Jn 1 R (Jj1 (κ:=K210) 4 (vc:=[.slice ac s9.1.length ad,.slice aa s9.2.length ab]) R R R R R R R Z104 R R (f12.stp (S21.tr (S41.tr (S46.tr (S49.tr (S56.tr (S131.tr (S204.tr S211))))))) R R) R λw257 S258 f259=>⟨tv,Jb 2 R (Ju (Ja2 (l:=[.cell 4 104,.tmp 5,.tmp 6]) V69 (bL R f259 I104 Z104 R (Jp2 R (Jp2 R R))) R ?_))⟩))))
 cases h
 have S004:=(S204.tr (S211.tr S258))
 exact⟨(λb=>ren [(10,2),(11,3),(12,4)] (K210 b)),ac,ad,aa,ab,aJ,aR,R,((hE.stp (S3.tr (S7.tr (S11.tr (S21.tr (S41.tr (S46.tr (S49.tr (S56.tr (S131.tr (S204.tr (S211.tr S258))))))))))) R R).map (ren [(10,2),(11,3),(12,4)]) R R),((f132.stp S004 R R).map (ren [(10,2),(11,3),(12,4)]) R R),((f133.stp S004 R R).map (ren [(10,2),(11,3),(12,4)]) R R),((f212.stp S258 R R).map (ren [(10,2),(11,3),(12,4)]) R R)⟩
 refine JT λh=>Jx R (Je [2,1,1,2,2] R (Jf R (bI (parts:=[]) (cells:=[.slice none 0 0,.slice none 0 0]) R R (by kernel_rfl)) (Jo1 (κ:=K20) (E:=Pair.ep154) 7 R R R R R Y98 Tryzinfo154 R λbb be w25 K26 S27 f28=>⟨tv,Jj1 (κ:=K26) 4 (vc:=[.slice none 0 0,.slice none 0 0]) R R R R R R R Z104 R R (f12.stp (S21.tr S27) R R) R λw30 S31 f32=>⟨tv,Jb 2 R (Ju (Jw (Ja2 (l:=[.cell 4 104,.tmp 5,.tmp 6]) V69 (bL R f32 I104 Z104 R (Jp2 R (Jp2 R R))) R ?_)))⟩⟩)))
 cases h
 exact⟨(λb=>ren [(7,4)] (K26 b)),none,0,none,0,bb,be,R,((hE.stp (S3.tr (S7.tr (S11.tr (S21.tr (S27.tr S31))))) R R).map (ren [(7,4)]) R R),Ow.nil,Ow.nil,((f28.stp S31 R R).map (ren [(7,4)]) R R)⟩
theorem oT {w:World}{κ:Col}{ab af ae ac ad aa}{p0:Parity}{a1 u1}{p1:(List Int)}(g0_0_0:Rd (Rp.int .i64) κ w 0 ab af p0.Arena.Owner) (g0_0_1:Rd (Rp.sl (Rp.int .i64)) κ w 0 ae ac p0.Arena.Next) (g0_1:Rd (Rp.int .i64) κ w 0 ad aa p0.Prio) (g1:Rd (Rp.int .i64) κ w 0 a1 u1 p1){r:Bool}(h:iM p0 p1=some r):Ret Tryz.prog 173 [.agg #[.slice ab p0.Arena.Owner.length af,.slice ae p0.Arena.Next.length ac,.slice ad p0.Prio.length aa],.slice a1 p1.length u1] w (λv w'=>∃(κ':Col),v= .bool r/\Ent κ w κ' w'):=by
 unfold iM at h
 refine Ret.enter F173 R N173 R ?_
 dsimp only[envOf]
 have hE:=Ent.refl κ w
 refine Je [1,2] R (Jf1 (κ:=κ) 2 R R R R R R R λb2 w1 K2 S3 f4=>⟨tv,Jb 1 R (Je [1,2,1,2,2,2,1,1,2] R (Jl tv R R R R (Jd2 (cs:=[.slice ab p0.Arena.Owner.length af,.slice ae p0.Arena.Next.length ac,.slice ad p0.Prio.length aa]) I108 Z108 R R R (haE f4.cells)) (Jn 1 R (Ob h λx10 hx10 h=>?_))))⟩)
 have f5:=g0_0_0.stp S3 R R
 have f6:=g0_0_1.stp S3 R R
 have f7:=g0_1.stp S3 R R
 refine Jh R R R C211 (qL (κ:=Mk K2) (p0:=p0) (Ji3 f5) (Ji3 f6) (Ji3 f7) (Ji3 (g1.stp S3 R R)) hx10) ?_
 rintro _ w9 ⟨k10,aj,ah,al,ai,ak,am,rfl,e11,f12,f13,f14⟩
 obtain⟨K15,S16,m17⟩:=Ji e11 3 R
 refine⟨tv,Jn 3 R (Jg1 (κ:=K15) 8 R R R R R X108 R λb5 w22 K23 S24 f25=>⟨tv,Jj1 (κ:=K23) 8 (vc:=[.slice aj x10.1.Arena.Owner.length ah,.slice al x10.1.Arena.Next.length ai,.slice ak x10.1.Prio.length am]) R R R R R R R Z108 R R f25 R λw26 S27 f28=>⟨tv,Jb 1 R (Jq (Js1 (κ:=K23) [2,8] none [(0,2),(1,2),(2,0),(4,0),(3,1),(5,1),(6,1),(7,2),(8,2)] [] (by kernel_rfl) (by kernel_rfl) λw30 S29=>Jn 2 R (Ob h λp20 h hK31=>Ju1 [(2,0),(4,0),(3,1),(5,1),(6,1),(7,2)] [(8,2)] (λL w'=>L=[(4,.bool false),(20,.bool p20)]/\∃κ',Stp [] K23 w30 κ' w') (Cl.refl _ _ _) ?_ ?_)))⟩⟩)⟩
 revert h
 cases ht32:x10.2
 refine JF λh=>Je1 R R R R (Je1 R R R R (Jd1 R R R R (Jd1 R R R R (Jd1 R R R R (Jn 1 R ?_)))))
 cases h
 exact Jv1 _ (Cl.refl _ _ _) ⟨R,_,Jj3⟩ (KM R)
 have S001:=(S24.tr (S27.tr S29))
 refine JT λh=>Jg R (Jd2 (cs:=[.slice aj x10.1.Arena.Owner.length ah,.slice al x10.1.Arena.Next.length ai,.slice ak x10.1.Prio.length am]) I108 Z108 R R R (haC (f28.stp S29 R R).cells R)) (Jg R (Jd2 (cs:=[.slice ab p0.Arena.Owner.length af,.slice ae p0.Arena.Next.length ac,.slice ad p0.Prio.length aa]) I108 Z108 R R R (haC (f4.stp (S16.tr (S24.tr (S27.tr S29))) R R).cells R)) (Ob h λx16 hx16 h=>Jh R R R C174 (lL (κ:=Mk K23) (p0:=x10.1) (Ji3 ((f12.mx (bH _) m17 R (R:3+2=5)).stp S001 R R).rdc) (Ji3 ((f13.mx (ck (bH _) _) m17 R (R:3+3=6)).stp S001 R R).rdc) (Ji3 ((f14.mx (bH _) m17 R (R:3+4=7)).stp S001 R R).rdc) hx16) ?_))
 rintro _ w38 ⟨k39,an,ap,rfl,e40,f41⟩
 obtain⟨K42,S43,m44⟩:=Ji e40 9 R
 have S002:=(S16.tr (S24.tr (S27.tr (S29.tr S43))))
 refine⟨(S43.cl R),Ob h λx18 hx18 h=>Jh R R R C174 (lL (κ:=Mk K42) (p0:=p0) (Ji3 (f5.stp S002 R R)) (Ji3 (f6.stp S002 R R)) (Ji3 (f7.stp S002 R R)) hx18) ?_⟩
 rintro _ w50 ⟨k51,aq,ao,rfl,e52,f53⟩
 obtain⟨K54,S55,m56⟩:=Ji e52 12 R
 refine⟨((S43.tr S55).cl R),Ob h λx19 hx19 h=>Jh R R R C212 (qD (κ:=Mk K54) (Ji3 ((f41.mx (bH _) m44 R (R:9+2=11)).stp S55 R R).rdc) (Ji3 (f53.mx (bH _) m56 R (R:12+2=14)).rdc) hx19) ?_⟩
 rintro _ w60 ⟨k61,rfl,e62⟩
 obtain⟨K63,S64,m65⟩:=Ji e62 15 R
 refine⟨((S43.tr (S55.tr S64)).cl R),Jn 1 R ?_⟩
 cases h
 exact Jv1 _ ((S43.tr (S55.tr S64)).cl R) ⟨R,_,(S43.tr (S55.tr S64)).wk R⟩ (KM R)
 rintro _ w67 _ ⟨rfl,K68,S69⟩
 have h:=hK31
 refine Jn 1 R (Jt1 (Jd (Ju (Ja2 (l:=[.tmp 4]) V173 (Jp2 R R) R ?_))))
 cases h
 exact⟨K68,R,(hE.stp (S3.tr (S16.tr (S24.tr (S27.tr (S29.tr S69))))) R R)⟩
theorem oe {w:World}{κ:Col}{p0:Sig}{a1 u1}{p1:(List Clause)}(g1:Rd Clause.rp κ w 0 a1 u1 p1){r:Det×Bool}(h:dQ p0 p1=some r):Ret Tryz.prog 77 [.agg #[vi p0.In,vi p0.Out],.slice a1 p1.length u1] w (λv w'=>∃(κ':Col) (ra0:Option Addr) (ru0:Nat) (ra1:Option Addr) (ru1:Nat),v= .tuple #[.agg #[.slice ra0 r.1.Next.length ru0,.slice ra1 r.1.Pairs.length ru1],.bool r.2]/\Ent κ w κ' w'/\Oc (Ep.own E6 2) 29 κ' w' 2 ra0 ru0 r.1.Next/\Oc Pair.ep154 154 κ' w' 3 ra1 ru1 r.1.Pairs):=by
 unfold dQ at h
 refine Ret.enter F77 R N77 R ?_
 dsimp only[envOf]
 have hE:=Ent.refl κ w
 refine Je [1,1,2] R (Jf1 (κ:=κ) 2 R R R R R R R λb2 w1 K2 S3 f4=>⟨tv,Jg1 (κ:=K2) 3 R R R R R X100 R λb4 w5 K6 S7 f8=>⟨tv,Jb 1 R (Jq (Je [1,1,2,2,1,2,1,2,2] R ?_))⟩⟩)
 have f9:=f4.stp S7 R R
 refine Jl tv R R R R (Jd2 (cs:=[vi p0.In,vi p0.Out]) I25 Z25 R R R (haE f9.cells)) (Ob h λx12 hx12 h=>Jh R R R C48 (rQ (κ:=Mk K6) (p0:=p0) hx12) ?_)
 rintro _ w10 ⟨k11,rfl,e12⟩
 obtain⟨K13,S14,m15⟩:=Ji e12 4 R
 refine⟨tv,Jn 2 R (Ob h λp19 h hK17=>Ju1 [(4,1),(5,2),(6,1),(7,2),(8,2)] [] (λL w'=>L=[(1,.slice a1 p1.length u1),(2,.pointer (some ⟨b2,0,none⟩)),(4,.pointer (some ⟨b4,0,none⟩)),(19,.bool p19)]/\∃κ',Stp [] K13 w10 κ' w') tv ?_ ?_)⟩
 revert h
 cases ht18:(!x12)
 refine JF λh=>Jl tv R R R R (Jd2 (cs:=[vi p0.In,vi p0.Out]) I25 Z25 R R R (haE (f9.stp S14 R R).cells)) (Jn 1 R (Ob h λx17 hx17 h=>Jh R R R C129 (na (κ:=Mk K13) (p0:=p0) (Ji3 (g1.stp (S3.tr (S7.tr S14)) R R)) hx17) ?_))
 rintro _ w21 ⟨k22,rfl,e23⟩
 obtain⟨K24,S25,m26⟩:=Ji e23 6 R
 refine⟨tv,Jn 2 R ?_⟩
 cases h
 exact Jv1 _ tv ⟨R,_,S25.wk R⟩ (KM R)
 refine JT λh=>Jd1 R R R R (Jn 1 R (Jd1 R R R R (Jn 2 R ?_)))
 cases h
 exact Jv1 _ tv ⟨R,_,Jj3⟩ (KM R)
 rintro _ w28 _ ⟨rfl,K29,S30⟩
 have h:=hK17
 refine Jd ?_
 revert h
 cases ht31:p19
 refine JF λh=>Jy R (Js (Jp (Je [1,1,1,1,2,1,1] R ?_)))
 have f37:=f9.stp (S14.tr S30) R R
 refine Jl tv R R R R (Jd2 (cs:=[vi p0.In,vi p0.Out]) I25 Z25 R R R (haE f37.cells)) (Ob h λx22 hx22 h=>Jh R R R C130 (gj (κ:=Mk K29) (p0:=p0) hx22) ?_)
 rintro _ w38 ⟨k39,rfl,e40⟩
 obtain⟨K41,S42,m43⟩:=Ji e40 6 R
 refine⟨tv,Ob h λx23 hx23 h=>Jl1 (κ:=K41) (E:=E6) (z:=(0:Int)) 8 R R R R R R R Y29 Tryzinfo2 R R R R R (λ_ _ _=>R) (Ju2 hx23) λav aw w45 K46 S47 f48=>⟨tv,Jn1 (κ:=K46) (E:=(Ep.own E6 2)) 9 [8] (parts:=[(0,.tmp 23)]) (cells:=[.slice av x23.length aw]) (xs:=([x23]:List (List Int))) R R R R R R Y26 Tryzinfo29 R R R R R R R R R R ⟨[.slice av x23.length aw],[],Zl K46 w45 [8],Zl K46 w45 [],R,Zl.sp (l1:=[8]) (l2:=[]) R,Zl.sr (l1:=[8]) (l2:=[]),⟨_,_,R,f48⟩,R⟩ λar au w49 K50 S51 f52=>⟨tv,Jf R (bI (parts:=[(0,.tmp 24)]) (cells:=[.slice ar ([x23]:List (List Int)).length au,.slice none 0 0]) R R (by kernel_rfl)) (Jg1 (κ:=K50) 10 R R R R R X100 R λb6 w53 K54 S55 f56=>⟨tv,Jj1 (κ:=K54) 10 (vc:=[.slice ar ([x23]:List (List Int)).length au,.slice none 0 0]) R R R R R R R Z100 R R f56 R λw57 S58 f59=>⟨tv,Jd (Jq (Jg3 [2,2,2] 1 R (Jf R (Je2 U49 R R) (Jb 1 R ?_))))⟩⟩)⟩⟩⟩
 have hN60:(p1.length:Int)<=9223372036854775807:=g1.len_le
 refine Ob h λq2 hq62 hK61=>?_
 clear h
 refine Jx1 (λL w'=>∃κ',∃s3:(List (List Int))×(List Pair),∃ae ah am ai,L=[(4,.pointer (some ⟨b4,0,none⟩)),(6,.pointer (some ⟨b6,0,none⟩))]/\Stp [10,12,13,14,17,19,20,21] K54 w57 κ' w'/\Oc (Ep.own E6 2) 29 κ' w' 9 ae ah s3.1/\Oc Pair.ep154 154 κ' w' 11 am ai s3.2/\Bc κ' w' 10 b6 100 [.slice ae s3.1.length ah,.slice am s3.2.length ai]/\q2=it s3) ?_ ?_
 refine Jv (Jy1 (λk L w'=>∃κ' v28,∃s1:(List (List Int))×(List Pair),∃ap an ao aq,L=[(2,.pointer (some ⟨b2,0,none⟩)),(4,.pointer (some ⟨b4,0,none⟩)),(6,.pointer (some ⟨b6,0,none⟩)),(26,.slice a1 p1.length u1),(27,vi (p1.length:Int)),(28,vi v28)]/\Stp [10,12,13,14,17,19,20,21] K54 w57 κ' w'/\Oc (Ep.own E6 2) 29 κ' w' 9 ap an s1.1/\Oc Pair.ep154 154 κ' w' 11 ao aq s1.2/\Bc κ' w' 10 b6 100 [.slice ap s1.1.length an,.slice ao s1.2.length aq]/\0<=v28/\t5 ((p1.length:Int)-v28)=k/\cntM (dA p0 p1) k v28 s1=some q2) ⟨_,_,⟨K54,0,((([x23]:List (List Int)):(List (List Int))),(([]:List Pair):(List Pair))),ar,au,none,0,R,Jj3,(f52.stp (S55.tr S58) R R),Ow.nil,f59,(by decide),(by simp),hq62⟩,(KM R)⟩ ?_)
 rintro k _ w69 ⟨K70,v28,s1,ap,an,ao,aq,rfl,S71,f72,f73,f74,hj60,hJ60,h⟩
 rcases k with _ | k
 have hk76:=h;obtain⟨o60,h⟩:=bO (it (sh s1):(Det×Bool)⊕(((List (List Int))×(List Pair))⊕((List (List Int))×(List Pair))))
 have hc60:decide (v28<(p1.length:Int))=false:=Jo2 (by omega)
 refine Je3 R (Jq (Jw2 R hc60 (Jc1 (Jt (Jt ?_)))))
 cases h
 have h:=hk76
 refine Jb1 ?_
 cases h
 exact Jw1 _ ⟨K70,((s1.1:(List (List Int))),(s1.2:(List Pair))),ap,an,ao,aq,R,S71.wk R,f72,f73,f74,R⟩ (KM R)
 obtain⟨o60,h,hk76⟩:=BI h;unfold dA at h
 have hc60:decide (v28<(p1.length:Int))=true:=Jn2 (by omega)
 refine Je3 R (Jq (Jv2 R hc60 (Js (Jp (Jq (Jv (Je [2,1,1,1] R (Ob h λx30 hx30 h=>Jc3 R g1 hx30 U49 Z119 ?_))))))))
 obtain⟨cse78,hre78,hle78⟩:=((g1.stp (S3.tr (S7.tr (S14.tr (S30.tr (S42.tr (S47.tr (S51.tr (S55.tr (S58.tr S71))))))))) R R)).gSt hx30
 obtain⟨ae78_0,ue78_0,ae78_1,ue78_1,rfl,fe78_0,fe78_1⟩:=Clause.un hre78
 refine Jl tv R R R R (Jd2 (cs:=[vi x30.Kind,.slice ae78_0 x30.A.length ue78_0,.slice ae78_1 x30.B.length ue78_1]) I119 Z119 R R R (haE hle78)) (Jg1 (κ:=K70) 12 R R R R R X119 R λb8 w79 K80 S81 f82=>⟨tv,Jj1 (κ:=K80) 12 (vc:=[vi x30.Kind,.slice ae78_0 x30.A.length ue78_0,.slice ae78_1 x30.B.length ue78_1]) R R R R R R R Z119 R R f82 R λw83 S84 f85=>⟨tv,Jd (Jq (Ob h λx36 hx36 h=>Ob h λx37 hx37 h=>Jx1 (λL w'=>∃κ' b9 ak af al aj,L=[(2,.pointer (some ⟨b2,0,none⟩)),(4,.pointer (some ⟨b4,0,none⟩)),(6,.pointer (some ⟨b6,0,none⟩)),(9,.pointer (some ⟨b9,0,none⟩)),(10,.bool x37.2),(26,.slice a1 p1.length u1),(27,vi (p1.length:Int)),(28,vi v28)]/\Stp [13,17,19,20,21] K80 w83 κ' w'/\Oc (Ep.own E6 2) 29 κ' w' 13 ak af x37.1.Next/\Oc Pair.ep154 154 κ' w' 14 al aj x37.1.Pairs/\Bc κ' w' 15 b9 100 [.slice ak x37.1.Next.length af,.slice al x37.1.Pairs.length aj]) ?_ ?_))⟩⟩)
 refine WC.rxt (κ:=K80) [2,10,12] none (by kernel_rfl) λw93 S94=>Jq1 (fuel:=8) [(0,0),(1,0),(2,0)] (by kernel_rfl) (by kernel_rfl) R (Jg R (Jd2 (cs:=[.slice ap s1.1.length an,.slice ao s1.2.length aq]) I100 Z100 R R R (haC (f74.stp (S81.tr (S84.tr S94)) R R).cells R)) (Jg R (Jd2 (cs:=[vi p0.In,vi p0.Out]) I25 Z25 R R R (haC (f37.stp (S42.tr (S47.tr (S51.tr (S55.tr (S58.tr (S71.tr (S81.tr (S84.tr S94)))))))) R R).cells R)) (Jg R (Jd2 (cs:=[vi x30.Kind,.slice ae78_0 x30.A.length ue78_0,.slice ae78_1 x30.B.length ue78_1]) I119 Z119 R R R (haC (f85.stp S94 R R).cells R)) (Jp1 (WA.fork2 (fuel:=7) 3 8 (by kernel_rfl) R ?_ ?_)))))
 refine Jh R R R C132 (kT (κ:=Mk K80) (p0:=p0) (p1:=x30) (Ji3 (fe78_0.stp (S81.tr (S84.tr S94)) R R)) (Ji3 (fe78_1.stp (S81.tr (S84.tr S94)) R R)) hx36) ?_
 rintro _ w100 ⟨k101,ax,az,ay,aA,rfl,e102,f103,f104⟩
 obtain⟨K105,S106,m107⟩:=Ji e102 13 R
 refine⟨(S106.cl R),?_⟩
 have f109:=f103.mx (ck (bH _) _) m107 R (R:13+2=15)
 have f110:=f104.mx Pair.no154 m107 R (R:13+3=16)
 refine Jp1 (WA.fork2 (fuel:=6) 4 8 (by kernel_rfl) R ?_ ?_)
 have S001:=(S81.tr (S84.tr (S94.tr S106)))
 refine Jh R R R C131 (i9 (κ:=Mk K105) (p0:=(⟨s1.1,s1.2⟩:Det)) (p1:=x36) (Ji3 (f72.stp S001 R R).rdc) (Ji3 (f73.stp S001 R R).rdc) (Ji3 f109.rdc) (Ji3 f110.rdc) hx37) ?_
 rintro _ w113 ⟨k114,aa,ad,ab,ac,rfl,e115,f116,f117⟩
 obtain⟨K118,S119,m120⟩:=Ji e115 17 R
 have S002:=(S106.tr S119)
 exact⟨(S002.cl R),Jp1 (Jq1 (fuel:=0) [(5,2),(6,2),(7,2),(8,1),(9,1),(10,2)] (by kernel_rfl) (by kernel_rfl) R (Jn 3 R (Jg1 (κ:=K118) 21 R R R R R X100 R λb9 w124 K125 S126 f127=>⟨((S002.tr S126).cl R),Jj1 (κ:=K125) 21 (vc:=[.slice aa x37.1.Next.length ad,.slice ab x37.1.Pairs.length ac]) R R R R R R R Z100 R R f127 R λw128 S129 f130=>⟨((S002.tr (S126.tr S129)).cl R),Jn 1 R (Jp1 (Jr1 [] (by kernel_rfl) (by kernel_rfl) R (Jo (Jw1 _ ⟨(λb=>ren [(19,13),(20,14),(21,15)] (K125 b)),b9,aa,ad,ab,ac,R,(Jy2 ((S94.tr (S106.tr (S119.tr (S126.tr S129)))).wk R) [(19,13),(20,14),(21,15)] R),(((f116.mx (ck (bH _) _) m120 R (R:17+2=19)).stp (S126.tr S129) R R).map (ren [(19,13),(20,14),(21,15)]) R R),(((f117.mx Pair.no154 m120 R (R:17+3=20)).stp (S126.tr S129) R R).map (ren [(19,13),(20,14),(21,15)]) R R),(f130.map (ren [(19,13),(20,14),(21,15)]) R R)⟩ (KM R)))))⟩⟩)))⟩
 have S003:=(S81.tr (S84.tr (S94.tr S106)))
 refine Jg1 (κ:=K105) 17 R R R R R X100 R λb9 w133 K134 S135 f136=>⟨((S106.tr S135).cl R),Jp1 (Jq1 (fuel:=0) [(4,1),(5,2),(6,2),(7,2),(9,1),(10,2)] (by kernel_rfl) (by kernel_rfl) R (Jh R R R C131 (i9 (κ:=Mk K134) (p0:=(⟨s1.1,s1.2⟩:Det)) (p1:=x36) (Ji3 (f72.stp (S003.tr S135) R R).rdc) (Ji3 (f73.stp (S003.tr S135) R R).rdc) (Ji3 (f109.stp S135 R R).rdc) (Ji3 (f110.stp S135 R R).rdc) hx37) ?_))⟩
 rintro _ w141 ⟨k142,aa,ad,ab,ac,rfl,e143,f144,f145⟩
 obtain⟨K146,S147,m148⟩:=Ji e143 18 R
 have S004:=(S106.tr (S135.tr S147))
 exact⟨(S004.cl R),Jn 3 R (Jj1 (κ:=K146) 17 (vc:=[.slice aa x37.1.Next.length ad,.slice ab x37.1.Pairs.length ac]) R R R R R R R Z100 R R (f136.stp S147 R R) R λw153 S154 f155=>⟨((S004.tr S154).cl R),Jn 1 R (Jp1 (Jr1 [] (by kernel_rfl) (by kernel_rfl) R (Jo (Jw1 _ ⟨(λb=>ren [(20,13),(21,14),(17,15)] (K146 b)),b9,aa,ad,ab,ac,R,(Jy2 ((S94.tr (S106.tr (S135.tr (S147.tr S154)))).wk R) [(20,13),(21,14),(17,15)] R),(((f144.mx (ck (bH _) _) m148 R (R:18+2=20)).stp S154 R R).map (ren [(20,13),(21,14),(17,15)]) R R),(((f145.mx Pair.no154 m148 R (R:18+3=21)).stp S154 R R).map (ren [(20,13),(21,14),(17,15)]) R R),(f155.map (ren [(20,13),(21,14),(17,15)]) R R)⟩ (KM R)))))⟩)⟩
 refine Jg1 (κ:=K80) 13 R R R R R X100 R λb9 w158 K159 S160 f161=>⟨(S160.cl R),Jp1 (Jq1 (fuel:=0) [(3,1),(4,1),(5,2),(6,2),(7,2),(9,1),(10,2)] (by kernel_rfl) (by kernel_rfl) R (Jh R R R C132 (kT (κ:=Mk K159) (p0:=p0) (p1:=x30) (Ji3 (fe78_0.stp (S81.tr (S84.tr (S94.tr S160))) R R)) (Ji3 (fe78_1.stp (S81.tr (S84.tr (S94.tr S160))) R R)) hx36) ?_))⟩
 rintro _ w164 ⟨k165,ax,az,ay,aA,rfl,e166,f167,f168⟩
 obtain⟨K169,S170,m171⟩:=Ji e166 14 R
 have S005:=(S81.tr (S84.tr (S94.tr (S160.tr S170))))
 refine⟨((S160.tr S170).cl R),Jh R R R C131 (i9 (κ:=Mk K169) (p0:=(⟨s1.1,s1.2⟩:Det)) (p1:=x36) (Ji3 (f72.stp S005 R R).rdc) (Ji3 (f73.stp S005 R R).rdc) (Ji3 (f167.mx (ck (bH _) _) m171 R (R:14+2=16)).rdc) (Ji3 (f168.mx Pair.no154 m171 R (R:14+3=17)).rdc) hx37) ?_⟩
 rintro _ w177 ⟨k178,aa,ad,ab,ac,rfl,e179,f180,f181⟩
 obtain⟨K182,S183,m184⟩:=Ji e179 18 R
 have S006:=(S160.tr (S170.tr S183))
 exact⟨(S006.cl R),Jn 3 R (Jj1 (κ:=K182) 13 (vc:=[.slice aa x37.1.Next.length ad,.slice ab x37.1.Pairs.length ac]) R R R R R R R Z100 R R (f161.stp (S170.tr S183) R R) R λw189 S190 f191=>⟨((S006.tr S190).cl R),Jn 1 R (Jp1 (Jr1 [] (by kernel_rfl) (by kernel_rfl) R (Jo (Jw1 _ ⟨(λb=>ren [(20,13),(21,14),(13,15)] (K182 b)),b9,aa,ad,ab,ac,R,(Jy2 ((S94.tr (S160.tr (S170.tr (S183.tr S190)))).wk R) [(20,13),(21,14),(13,15)] R),(((f180.mx (ck (bH _) _) m184 R (R:18+2=20)).stp S190 R R).map (ren [(20,13),(21,14),(13,15)]) R R),(((f181.mx Pair.no154 m184 R (R:18+3=21)).stp S190 R R).map (ren [(20,13),(21,14),(13,15)]) R R),(f191.map (ren [(20,13),(21,14),(13,15)]) R R)⟩ (KM R)))))⟩)⟩
 rintro _ w86 ⟨K87,b9,ak,af,al,aj,rfl,S88,f90,f91,f92⟩
 refine Jp (Jq (Je3 R ?_))
 revert h
 cases ht194:(!x37.2)
 refine JF λh=>Jy R (Js (Jp (Ja [1,1] R (Jl tv R R R R (Jd2 (cs:=[.slice ak x37.1.Next.length af,.slice al x37.1.Pairs.length aj]) I100 Z100 R R R (haE f92.cells)) (Jj1 (κ:=K87) 10 (vc:=[.slice ak x37.1.Next.length af,.slice al x37.1.Pairs.length aj]) R R R R R R R Z100 R R (f74.stp (S81.tr (S84.tr S88)) R R) R λw201 S202 f203=>⟨tv,Jo (Jz (Jp (Jf3 R ?_)))⟩)))))
 have hw60:hV .i64 (v28+1)=v28+1:=wr1 hj60 (Jm2 hc60) hN60
 rw[hw60]
 have hc60:=Jm2 hc60
 cases h
 exact Jz1 λa ha=>⟨k,_,Ja3 _,⟨(λb=>ren [(13,9),(14,11)] (K87 b)),v28+1,((x37.1.Next:(List (List Int))),(x37.1.Pairs:(List Pair))),ak,af,al,aj,R,(Jy2 ((S71.tr (S81.tr (S84.tr (S88.tr S202)))).wk R) [(13,9),(14,11)] R),((f90.stp S202 R R).map (ren [(13,9),(14,11)]) R R),((f91.stp S202 R R).map (ren [(13,9),(14,11)]) R R),(f203.map (ren [(13,9),(14,11)]) R R),by omega,by omega,hk76⟩,(ha.mm R)⟩
 refine JT λh=>Jx R (Je [2,1,2] R (Jf R (bI (parts:=[]) (cells:=[.slice none 0 0,.slice none 0 0]) R R (by kernel_rfl)) (Jj1 (κ:=K87) 3 (vc:=[.slice none 0 0,.slice none 0 0]) R R R R R R R Z100 R R (f8.stp (S14.tr (S30.tr (S42.tr (S47.tr (S51.tr (S55.tr (S58.tr (S71.tr (S81.tr (S84.tr S88)))))))))) R R) R λw196 S197 f198=>⟨tv,Jb 1 R (Ju (Jw (Ja1 (Jw (Jw ?_)))))⟩)))
 cases h
 obtain rfl:=Option.some.inj hk76
 have h:=hK61
 dsimp only[aft]at h
 refine Ja1 (Jq2 (Jw (Ja2 (l:=[.cell 4 100,.tmp 5]) V77 (bL R f198 I100 Z100 R (Jp2 R R)) R ?_)))
 cases h
 exact⟨K87,none,0,none,0,R,(hE.stp (S3.tr (S7.tr (S14.tr (S30.tr (S42.tr (S47.tr (S51.tr (S55.tr (S58.tr (S71.tr (S81.tr (S84.tr (S88.tr S197))))))))))))) R R),Ow.nil,Ow.nil⟩
 rintro _ w63 ⟨K64,s3,ae,ah,am,ai,rfl,S65,f66,f67,f68,rfl⟩
 have h:=hK61
 dsimp only[aft]at h
 refine Jp (Je [1,1,2] R (Jl tv R R R R (Jd2 (cs:=[.slice ae s3.1.length ah,.slice am s3.2.length ai]) I100 Z100 R R R (haE f68.cells)) (Jj1 (κ:=K64) 3 (vc:=[.slice ae s3.1.length ah,.slice am s3.2.length ai]) R R R R R R R Z100 R R (f8.stp (S14.tr (S30.tr (S42.tr (S47.tr (S51.tr (S55.tr (S58.tr S65))))))) R R) R λw207 S208 f209=>⟨tv,Jb 1 R (Ju (Ja2 (l:=[.cell 4 100,.tmp 5]) V77 (bL R f209 I100 Z100 R (Jp2 R R)) R ?_))⟩)))
 cases h
 exact⟨(λb=>ren [(9,2),(11,3)] (K64 b)),ae,ah,am,ai,R,((hE.stp (S3.tr (S7.tr (S14.tr (S30.tr (S42.tr (S47.tr (S51.tr (S55.tr (S58.tr (S65.tr S208)))))))))) R R).map (ren [(9,2),(11,3)]) R R),((f66.stp S208 R R).map (ren [(9,2),(11,3)]) R R),((f67.stp S208 R R).map (ren [(9,2),(11,3)]) R R)⟩
 refine JT λh=>Jx R (Je [2,1,2] R (Jf R (bI (parts:=[]) (cells:=[.slice none 0 0,.slice none 0 0]) R R (by kernel_rfl)) (Jj1 (κ:=K29) 3 (vc:=[.slice none 0 0,.slice none 0 0]) R R R R R R R Z100 R R (f8.stp (S14.tr S30) R R) R λw33 S34 f35=>⟨tv,Jb 1 R (Ju (Jw (Ja2 (l:=[.cell 4 100,.tmp 5]) V77 (bL R f35 I100 Z100 R (Jp2 R R)) R ?_)))⟩)))
 cases h
 exact⟨K29,none,0,none,0,R,(hE.stp (S3.tr (S7.tr (S14.tr (S30.tr S34)))) R R),Ow.nil,Ow.nil⟩
theorem nT {w:World}{κ:Col}{p0:Sig}{aK aL aO aN}{p1:Det}{aF aD aB aH aC aG}{p2:Parity}{a3 u3}{p3:(List Place)}(g1_0:Rd (Rp.sl (Rp.int .i64)) κ w 0 aK aL p1.Next) (g1_1:Rd Pair.rp κ w 0 aO aN p1.Pairs) (g2_0_0:Rd (Rp.int .i64) κ w 0 aF aD p2.Arena.Owner) (g2_0_1:Rd (Rp.sl (Rp.int .i64)) κ w 0 aB aH p2.Arena.Next) (g2_1:Rd (Rp.int .i64) κ w 0 aC aG p2.Prio) (g3:Rd Place.rp κ w 0 a3 u3 p3){r:Rival}(h:io p0 p1 p2 p3=some r):Ret Tryz.prog 81 [.agg #[vi p0.In,vi p0.Out],.agg #[.slice aK p1.Next.length aL,.slice aO p1.Pairs.length aN],.agg #[.slice aF p2.Arena.Owner.length aD,.slice aB p2.Arena.Next.length aH,.slice aC p2.Prio.length aG],.slice a3 p3.length u3] w (λv w'=>∃(κ':Col) (ra0:Option Addr) (ru0:Nat) (ra1:Option Addr) (ru1:Nat),v= .agg #[.slice ra0 r.In.length ru0,.slice ra1 r.Next.length ru1]/\Ent κ w κ' w'/\Oc E6 2 κ' w' 2 ra0 ru0 r.In/\Oc (Ep.own E6 2) 29 κ' w' 3 ra1 ru1 r.Next):=by
 unfold io at h
 refine Ret.enter F81 R N81 R ?_
 dsimp only[envOf]
 have hE:=Ent.refl κ w
 refine Je [1,1,1,1,1] R (Jf1 (κ:=κ) 2 R R R R R R R λb4 w1 K2 S3 f4=>⟨tv,Jf1 (κ:=K2) 3 R R R R R R R λb5 w5 K6 S7 f8=>⟨tv,Jf1 (κ:=K6) 4 R R R R R R R λb6 w9 K10 S11 f12=>⟨tv,Jf1 (κ:=K10) 5 R R R R R R R λb7 w13 K14 S15 f16=>⟨tv,Jg1 (κ:=K14) 6 R R R R R X31 R λb8 w17 K18 S19 f20=>⟨tv,Jd (Je [1,1,2,2] R ?_)⟩⟩⟩⟩⟩)
 have f21:=f12.stp (S15.tr S19) R R
 refine Jl tv R R R R (Jd2 (cs:=[.slice aF p2.Arena.Owner.length aD,.slice aB p2.Arena.Next.length aH,.slice aC p2.Prio.length aG]) I108 Z108 R R R (haE f21.cells)) (Ob h λx24 hx24 h=>?_)
 have f23:=g2_0_1.stp (S3.tr (S7.tr (S11.tr (S15.tr S19)))) R R
 have S001:=(S3.tr (S7.tr (S11.tr (S15.tr S19))))
 refine Jh R R R C90 (qE (κ:=Mk K18) (p0:=p2) (Ji3 (g2_0_0.stp S001 R R)) (Ji3 f23) (Ji3 (g2_1.stp S001 R R)) hx24) ?_
 rintro _ w25 ⟨k26,aY,bg,am,ao,rfl,e27,f28,f29⟩
 obtain⟨K30,S31,m32⟩:=Ji e27 7 R
 refine⟨tv,?_⟩
 have f35:=f29.mx (bH _) m32 R (R:7+3=10)
 refine Jf R (sQ U113 R I29 R R R) (Jb 1 R (Je [2,1,2,2] R (Jd3 R U100 R Z26 ?_)))
 have f36:=f8.stp (S11.tr (S15.tr (S19.tr S31))) R R
 refine Jb3 R I26 (f36.ld 0 R R) (Jf R (Je2 U26 R R) (Jb 1 R (Je [1,2] R (Jn1 (κ:=K30) (E:=E6) 11 [] (parts:=[(0,.const (vi 0))]) (cells:=[vi 0]) (xs:=([0]:List Int)) R R R R R R Y29 Tryzinfo2 R R R R R R R R R R ⟨[vi 0],[],Zl K30 w25 [],Zl K30 w25 [],R,Zl.sp (l1:=[]) (l2:=[]) R,Zl.sr (l1:=[]) (l2:=[]),R,R⟩ λaP aT w37 K38 S39 f40=>⟨tv,Jb 1 R (Je [2,1,1] R (Jf R (bI (parts:=[]) (cells:=[.slice none 0 0,.slice none 0 0]) R R (by kernel_rfl)) (Jg1 (κ:=K38) 12 R R R R R X31 R λb12 w41 K42 S43 f44=>⟨tv,Jj1 (κ:=K42) 12 (vc:=[.slice none 0 0,.slice none 0 0]) R R R R R R R Z31 R R f44 R λw45 S46 f47=>⟨tv,Jd (Jq (Je3 R (Ob h λq2 hq50 hK49=>?_)))⟩⟩)))⟩))))
 clear h
 refine Jx1 (λL w'=>∃κ',∃s3:(List Int)×Int×(List Int)×(List (List Int)),∃aJ aM ai ad af ah,L=[(8,.pointer (some ⟨b8,0,none⟩)),(12,.pointer (some ⟨b12,0,none⟩))]/\Stp [11,12,13,14,17,18,19,20] K42 w45 κ' w'/\Oc E6 2 κ' w' 11 aJ aM s3.1/\Oc E6 2 κ' w' 13 ai ad s3.2.2.1/\Oc (Ep.own E6 2) 29 κ' w' 14 af ah s3.2.2.2/\Bc κ' w' 12 b12 31 [.slice ai s3.2.2.1.length ad,.slice af s3.2.2.2.length ah]/\q2=it s3) ?_ ?_
 refine Jv (Jy1 (λk L w'=>∃κ',∃s1:(List Int)×Int×(List Int)×(List (List Int)),∃an ak av aA ap aj,L=[(4,.pointer (some ⟨b4,0,none⟩)),(5,.pointer (some ⟨b5,0,none⟩)),(6,.pointer (some ⟨b6,0,none⟩)),(7,.pointer (some ⟨b7,0,none⟩)),(8,.pointer (some ⟨b8,0,none⟩)),(9,.slice am x24.Plan.length ao),(10,vi (p1.Next.length:Int)),(11,.slice an s1.1.length ak),(12,.pointer (some ⟨b12,0,none⟩)),(13,vi s1.2.1)]/\Stp [11,12,13,14,17,18,19,20] K42 w45 κ' w'/\Oc E6 2 κ' w' 11 an ak s1.1/\Oc E6 2 κ' w' 13 av aA s1.2.2.1/\Oc (Ep.own E6 2) 29 κ' w' 14 ap aj s1.2.2.2/\Bc κ' w' 12 b12 31 [.slice av s1.2.2.1.length aA,.slice ap s1.2.2.2.length aj]/\whileM (dw p0 p1 p2 p3 x24) k s1=some q2) ⟨_,_,⟨K42,((([0]:List Int):(List Int)),(0:Int),(([]:List Int):(List Int)),(([]:List (List Int)):(List (List Int)))),aP,aT,none,0,none,0,R,Jj3,(f40.stp (S43.tr S46) R R),Ow.nil,Ow.nil,f47,hq50⟩,(KM R)⟩ ?_)
 rintro k _ w58 ⟨K59,s1,an,ak,av,aA,ap,aj,rfl,S60,f61,f62,f63,f64,h⟩
 rcases k with _ | k
 cases h
 obtain⟨o48,h,hk66⟩:=BI h;unfold dw at h
 refine Jq (Jg3 [2,2,2,2] 2 R (Jf R (Je2 U29 R R) (Jb 1 R ?_)))
 revert h
 cases ht67:decide (s1.2.1<(s1.1.length:Int))
 refine JF λh=>Jy R (Jc1 (Jt (Jt ?_)))
 cases h
 have h:=hk66
 refine Jb1 ?_
 cases h
 exact Jw1 _ ⟨K59,((s1.1:(List Int)),(s1.2.1:Int),(s1.2.2.1:(List Int)),(s1.2.2.2:(List (List Int)))),an,ak,av,aA,ap,aj,R,S60.wk R,f61,f62,f63,f64,R⟩ (KM R)
 refine JT λh=>Jx R (Js (Jp (Jq (Jv (Jq (Js1 (κ:=K59) [0,5,11] none [(1,2),(2,2),(3,2),(0,0),(4,0),(5,2),(6,2),(7,0),(8,2)] [] (by kernel_rfl) (by kernel_rfl) λw69 S68=>Jn 2 R (Ob h λx40 hx40 h=>Jc3 R f61.rdc hx40 U29 Z2 ?_)))))))
 have f70:=f16.stp (S19.tr (S31.tr (S39.tr (S43.tr (S46.tr (S60.tr S68)))))) R R
 refine Jg R (Jc2 I109 R R (hvC (f70.ld 0 R R) R)) ?_
 have f71:=f61.stp S68 R R
 refine Jg R (Jc2 I2 R R (hvC (f71.rdc.gInt hx40) R)) (Ob h λx42 hx42 h=>Jc3 R g3 hx42 U109 Z116 (Jd3 R U116 R Z2 ?_))
 have f72:=g3.stp (S3.tr (S7.tr (S11.tr (S15.tr (S19.tr (S31.tr (S39.tr (S43.tr (S46.tr (S60.tr S68)))))))))) R R
 obtain⟨cse73,hre73,hle73⟩:=(f72).gSt hx42
 obtain⟨ae73_0,ue73_0,rfl,fe73_0⟩:=Place.un hre73
 refine Jg R (Jc2 I2 R R (hvC (λw' hw'=>hle73 w' hw' 0 _ R) R)) (Jn 1 R (Jt1 (Jd (Jg3 [2,2,2,2,1,2,1,2] 3 R (Ob h λx48 hx48 h=>Jc3 R f71.rdc hx48 U29 Z2 (Jb3 R I2 (f71.rdc.gInt hx48) (Ob h λx50 hx50 h=>Jc3 R f35.rdc hx50 U29 Z2 (Jb3 R I2 ((f35.stp (S39.tr (S43.tr (S46.tr (S60.tr S68)))) R R).rdc.gInt hx50) (Jb 1 R (Jq (Js1 (κ:=K59) [0,2,5] none [(1,2),(5,2),(0,0),(2,2),(3,2),(4,0),(6,2),(7,0),(8,1),(9,2),(10,2)] [] (by kernel_rfl) (by kernel_rfl) λw76 S75=>Jn 2 R ?_)))))))))))
 have f77:=f70.stp S75 R R
 refine Jg R (Jc2 I109 R R (hvC (f77.ld 0 R R) R)) (Ob h λx54 hx54 h=>Jc3 R f72 hx54 U109 Z116 (Jd3 R U116 R Z2 ?_))
 have f78:=f72.stp S75 R R
 obtain⟨cse79,hre79,hle79⟩:=(f78).gSt hx54
 obtain⟨ae79_0,ue79_0,rfl,fe79_0⟩:=Place.un hre79
 refine Jg R (Jc2 I2 R R (hvC (λw' hw'=>hle79 w' hw' 0 _ R) R)) (Jn 1 R ?_)
 have f80:=f4.stp (S7.tr (S11.tr (S15.tr (S19.tr (S31.tr (S39.tr (S43.tr (S46.tr (S60.tr (S68.tr S75)))))))))) R R
 refine Jg R (Jd2 (cs:=[vi p0.In,vi p0.Out]) I25 Z25 R R R (haC f80.cells R)) (Ob h λx60 hx60 h=>Jh R R R C52 (gV (κ:=Mk K59) (p0:=p0) hx60) ?_)
 rintro _ w81 ⟨k82,rfl,e83⟩
 obtain⟨K84,S85,m86⟩:=Ji e83 15 R
 refine⟨(S85.cl R),Ob h λ_z61 hz61 h=>Jf R (qe R R R (uB hz61)) (Jn 1 R (Jt1 (Jd (Je [1,2] R (Jo1 (κ:=K84) (E:=E6) 17 R R R R R Y29 Tryzinfo2 R λaQ aS w88 K89 S90 f91=>⟨tv,Jb 1 R (Jq (Je [2,1,2,2] R (Jd3 R U25 R Z2 ?_)))⟩)))))⟩
 have f92:=f80.stp (S85.tr S90) R R
 refine Jb3 R I2 (f92.ld 1 R R) (Ob h λ_z65 hz65 h=>Jf R (pS R R R (sA hz65)) (Jb 1 R (Ob h λ_ hr93 h=>?_)))
 have hN93:=iz hr93
 refine Ob h λq5 hq95 hK94=>?_
 clear h
 refine Jx1 (λL w'=>∃κ',∃s6:(List Int)×(List Int),∃ar ay al aq,L=[(4,.pointer (some ⟨b4,0,none⟩)),(5,.pointer (some ⟨b5,0,none⟩)),(6,.pointer (some ⟨b6,0,none⟩)),(7,.pointer (some ⟨b7,0,none⟩)),(8,.pointer (some ⟨b8,0,none⟩)),(9,.slice am x24.Plan.length ao),(10,vi (p1.Next.length:Int)),(11,.slice ar s6.1.length ay),(12,.pointer (some ⟨b12,0,none⟩)),(13,vi s1.2.1),(16,vi (Int.tmod (IntKind.i64.wrap (x54.At-(p1.Next.length:Int))) x60)),(17,.slice al s6.2.length aq)]/\Stp [11,17,18,20] K89 w88 κ' w'/\Oc E6 2 κ' w' 11 ar ay s6.1/\Oc E6 2 κ' w' 17 al aq s6.2/\q5=it s6) ?_ ?_
 refine Jv (Jy1 (λk L w'=>∃κ' v66,∃s4:(List Int)×(List Int),∃ae aa ab ac,L=[(4,.pointer (some ⟨b4,0,none⟩)),(5,.pointer (some ⟨b5,0,none⟩)),(6,.pointer (some ⟨b6,0,none⟩)),(7,.pointer (some ⟨b7,0,none⟩)),(8,.pointer (some ⟨b8,0,none⟩)),(9,.slice am x24.Plan.length ao),(10,vi (p1.Next.length:Int)),(11,.slice ae s4.1.length aa),(12,.pointer (some ⟨b12,0,none⟩)),(13,vi s1.2.1),(14,vi x42.At),(15,vi x50),(16,vi (Int.tmod (IntKind.i64.wrap (x54.At-(p1.Next.length:Int))) x60)),(17,.slice ab s4.2.length ac),(65,vi (IntKind.i64.wrap (1 * 2 ^ (min (t5 p0.Out) (IntKind.bits IntKind.i64))))),(66,vi v66)]/\Stp [11,17,18,20] K89 w88 κ' w'/\Oc E6 2 κ' w' 11 ae aa s4.1/\Oc E6 2 κ' w' 17 ab ac s4.2/\0<=v66/\t5 ((IntKind.i64.wrap (1 * 2 ^ (min (t5 p0.Out) (IntKind.bits IntKind.i64))))-v66)=k/\cntM (dG p0 p1 p2 p3 x42 x50 x54 x60) k v66 s4=some q5) ⟨_,_,⟨K89,0,((s1.1:(List Int)),(([]:List Int):(List Int))),an,ak,aQ,aS,R,Jj3,(f71.stp (S75.tr (S85.tr S90)) R R),f91,(by decide),(by simp),hq95⟩,(KM R)⟩ ?_)
 rintro k _ w101 ⟨K102,v66,s4,ae,aa,ab,ac,rfl,S103,f104,f105,hj93,hJ93,h⟩
 rcases k with _ | k
 have hk107:=h;obtain⟨o93,h⟩:=bO (it (sh s4):Rival⊕(((List Int)×(List Int))⊕((List Int)×(List Int))))
 have hc93:decide (v66<(IntKind.i64.wrap (1 * 2 ^ (min (t5 p0.Out) (IntKind.bits IntKind.i64)))))=false:=Jo2 (by omega)
 refine Je3 R (Jq (Jw2 R hc93 (Jc1 (Jt (Jt ?_)))))
 cases h
 have h:=hk107
 refine Jb1 ?_
 cases h
 exact Jw1 _ ⟨K102,((s4.1:(List Int)),(s4.2:(List Int))),ae,aa,ab,ac,R,S103.wk R,f104,f105,R⟩ (KM R)
 obtain⟨o93,h,hk107⟩:=BI h;unfold dG at h
 have hc93:decide (v66<(IntKind.i64.wrap (1 * 2 ^ (min (t5 p0.Out) (IntKind.bits IntKind.i64)))))=true:=Jn2 (by omega)
 refine Je3 R (Jq (Jv2 R hc93 (Js (Jp (Jq (Jv (Je3 R (Jq (Ob h λx72 hx72 h=>Ob h λx76 hx76 h=>Ob h λx80 hx80 h=>Jx1 (λL w'=>∃κ' b19,L=[(4,.pointer (some ⟨b4,0,none⟩)),(5,.pointer (some ⟨b5,0,none⟩)),(6,.pointer (some ⟨b6,0,none⟩)),(7,.pointer (some ⟨b7,0,none⟩)),(8,.pointer (some ⟨b8,0,none⟩)),(9,.slice am x24.Plan.length ao),(10,vi (p1.Next.length:Int)),(11,.slice ae s4.1.length aa),(12,.pointer (some ⟨b12,0,none⟩)),(13,vi s1.2.1),(14,vi x42.At),(15,vi x50),(16,vi (Int.tmod (IntKind.i64.wrap (x54.At-(p1.Next.length:Int))) x60)),(17,.slice ab s4.2.length ac),(19,.pointer (some ⟨b19,0,none⟩)),(65,vi (IntKind.i64.wrap (1 * 2 ^ (min (t5 p0.Out) (IntKind.bits IntKind.i64))))),(66,vi v66)]/\Stp [18,20] K102 w101 κ' w'/\Bc κ' w' 18 b19 2 [vi x80]) ?_ ?_)))))))))
 refine WC.rxt (κ:=K102) [0,2,3] none (by kernel_rfl) λw113 S114=>Jq1 (fuel:=7) [(0,2),(2,2),(5,2),(9,2),(1,0),(3,2),(4,0),(6,0)] (by kernel_rfl) (by kernel_rfl) R (Jd3 R U100 R Z26 (Jn 3 R (Jg R (Jc2 I26 R R (hvC ((f36.stp (S39.tr (S43.tr (S46.tr (S60.tr (S68.tr (S75.tr (S85.tr (S90.tr (S103.tr S114))))))))) R R).ld 0 R R) R)) (Jc3 R g1_0 hx72 U26 Z29 ?_))))
 obtain⟨ax72,ux72,f117,hl118⟩:=(g1_0.stp (S3.tr (S7.tr (S11.tr (S15.tr (S19.tr (S31.tr (S39.tr (S43.tr (S46.tr (S60.tr (S68.tr (S75.tr (S85.tr (S90.tr (S103.tr S114))))))))))))))) R R).gSl hx72
 refine Jg R (Jc2 I29 R R (hvC hl118 R)) (Jg R (Jd2 (cs:=[vi p0.In,vi p0.Out]) I25 Z25 R R R (haC (f92.stp (S103.tr S114) R R).cells R)) (Jp1 (WA.fork2 (fuel:=6) 7 13 (by kernel_rfl) R ?_ ?_)))
 refine Jh R R R C52 (gV (κ:=Mk K102) (p0:=p0) hx76) ?_
 rintro _ w120 ⟨k121,rfl,e122⟩
 obtain⟨K123,S124,m125⟩:=Ji e122 18 R
 exact⟨(S124.cl R),Jp1 (Jq1 (fuel:=0) [(8,2),(10,2),(11,2),(12,0),(13,1),(14,1)] (by kernel_rfl) (by kernel_rfl) R (Jn 2 R (Jc3 R f117 hx80 U29 Z2 (Jg R (Jc2 I2 R R (hvC (f117.gInt hx80) R)) (Jg1 (κ:=K123) 20 R R R R R X2 R λb19 w127 K128 S129 f130=>⟨((S124.tr S129).cl R),Jj1 (κ:=K128) 20 (vc:=[vi x80]) R R R R R R R Z2 R R f130 R λw131 S132 f133=>⟨((S124.tr (S129.tr S132)).cl R),Jp1 (Jr1 [] (by kernel_rfl) (by kernel_rfl) R (Jo (Jw1 _ ⟨(λb=>ren [(20,18)] (K128 b)),b19,R,(Jy2 ((S114.tr (S124.tr (S129.tr S132))).wk R) [(20,18)] R),(f133.map (ren [(20,18)]) R R)⟩ (KM R))))⟩⟩)))))⟩
 refine Jg1 (κ:=K102) 18 R R R R R X2 R λb19 w134 K135 S136 f137=>⟨(S136.cl R),Jp1 (Jq1 (fuel:=0) [(7,1),(8,2),(10,2),(11,2),(12,0),(14,1)] (by kernel_rfl) (by kernel_rfl) R (Jh R R R C52 (gV (κ:=Mk K135) (p0:=p0) hx76) ?_))⟩
 rintro _ w138 ⟨k139,rfl,e140⟩
 obtain⟨K141,S142,m143⟩:=Ji e140 19 R
 exact⟨((S136.tr S142).cl R),Jn 2 R (Jc3 R f117 hx80 U29 Z2 (Jg R (Jc2 I2 R R (hvC (f117.gInt hx80) R)) (Jj1 (κ:=K141) 18 (vc:=[vi x80]) R R R R R R R Z2 R R (f137.stp S142 R R) R λw146 S147 f148=>⟨((S136.tr (S142.tr S147)).cl R),Jp1 (Jr1 [] (by kernel_rfl) (by kernel_rfl) R (Jo (Jw1 _ ⟨K141,b19,R,(S114.tr (S136.tr (S142.tr S147))).wk R,f148⟩ (KM R))))⟩)))⟩
 rintro _ w108 ⟨K109,b19,rfl,S110,f112⟩
 refine Jp (Je [2,2,1,2,2,1,2,1,2] R (Jd3 R U108 R Z104 (Jd3 R U104 R Z26 ?_)))
 have f149:=f21.stp (S31.tr (S39.tr (S43.tr (S46.tr (S60.tr (S68.tr (S75.tr (S85.tr (S90.tr (S103.tr S110)))))))))) R R
 refine Jb3 R I26 (f149.ld 1 R R) (Jn 1 R (Ob h λx86 hx86 h=>Jc3 R f23 hx86 U26 Z29 ?_))
 have f150:=f23.stp (S31.tr (S39.tr (S43.tr (S46.tr (S60.tr (S68.tr (S75.tr (S85.tr (S90.tr (S103.tr S110)))))))))) R R
 obtain⟨ax86,ux86,f151,hl152⟩:=f150.gSl hx86
 have S002:=(S85.tr (S90.tr (S103.tr S110)))
 refine Jb3 R I29 hl152 (Jf R (ip (first:=[]) (captured:=[.tmp 7,.tmp 19]) R R R ⟨_,R⟩) (Ob h λx89 hx89 h=>Jh R R R C91 (dU (κ:=Mk K109) (Ji3 f151) (Ji3 (f78.stp S002 R R)) ((f77.stp S002 R R).map (mp [] 0) R R) (f112.map (mp [] 0) R R) hx89) ?_))
 rintro _ w155 ⟨k156,rfl,e157⟩
 obtain⟨K158,S159,m160⟩:=Ji e157 19 R
 refine⟨tv,Jb 1 R (Je [2,2,1,2,2,1,2,2,1,2] R (Jd3 R U108 R Z104 (Jd3 R U104 R Z26 (Jb3 R I26 ((f149.stp S159 R R).ld 1 R R) (Jn 1 R (Ob h λx94 hx94 h=>Jc3 R f150 hx94 U26 Z29 ?_))))))⟩
 obtain⟨ax94,ux94,f164,hl165⟩:=(f150.stp S159 R R).gSl hx94
 refine Jb3 R I29 hl165 (Jn 1 R (Ob h λx97 hx97 h=>Jc3 R f164 hx97 U29 Z2 (Jb3 R I2 (f164.gInt hx97) (Jb 1 R (Jg3 [2,2,1,2] 2 R (Ob h λx101 hx101 h=>?_))))))
 have f166:=f104.stp (S110.tr S159) R R
 refine Jh R R R C63 (fM (κ:=Mk K158) (Ji3 f166.rdc) hx101) ?_
 rintro _ w167 ⟨k168,rfl,e169⟩
 obtain⟨K170,S171,m172⟩:=Ji e169 21 R
 refine⟨tv,Jb 1 R (Jq (Je3 R (Ob h λq7 h hK174=>Jx1 (λL w'=>∃κ' ax aw,L=[(4,.pointer (some ⟨b4,0,none⟩)),(5,.pointer (some ⟨b5,0,none⟩)),(6,.pointer (some ⟨b6,0,none⟩)),(7,.pointer (some ⟨b7,0,none⟩)),(8,.pointer (some ⟨b8,0,none⟩)),(9,.slice am x24.Plan.length ao),(10,vi (p1.Next.length:Int)),(11,.slice ax q7.1.length aw),(12,.pointer (some ⟨b12,0,none⟩)),(13,vi s1.2.1),(14,vi x42.At),(15,vi x50),(16,vi (Int.tmod (IntKind.i64.wrap (x54.At-(p1.Next.length:Int))) x60)),(17,.slice ab s4.2.length ac),(22,vi q7.2),(65,vi (IntKind.i64.wrap (1 * 2 ^ (min (t5 p0.Out) (IntKind.bits IntKind.i64))))),(66,vi v66)]/\Stp [11] K170 w167 κ' w'/\Oc E6 2 κ' w' 11 ax aw q7.1) ?_ ?_)))⟩
 revert h
 cases ht179:decide (x101<0)
 refine JF λh=>Jy R (Js ?_)
 cases h
 exact Jw1 _ ⟨K170,ae,aa,R,Jj3,(f166.stp S171 R R)⟩ (KM R)
 refine JT λh=>Jx R (Jg3 [2,2,2] 1 R (Jf R (Je2 U29 R R) (Jb 1 R (Jh3 [2,2,1,1,2] 2 R (Jn1 (κ:=K170) (E:=E6) 23 [] (parts:=[(0,.tmp 107)]) (cells:=[vi x97]) (xs:=([x97]:List Int)) R R R R R R Y29 Tryzinfo2 R R R R R R R R R R ⟨[vi x97],[],Zl K170 w167 [],Zl K170 w167 [],R,Zl.sp (l1:=[]) (l2:=[]) R,Zl.sr (l1:=[]) (l2:=[]),R,R⟩ λaX bc w180 K181 S182 f183=>⟨tv,Ob h λx109 hx109 h=>Jm1 (κ:=K181) (E:=E6) 11 [] R R R R R R R R R Y29 Tryzinfo2 R R R R (f166.stp (S171.tr S182) R R) (Sl.srcP (bT _) f183.rdc) bJ hx109 R λaR aV w185 K186 S187 f188=>⟨tv,Jc 1 R ?_⟩⟩)))))
 cases h
 exact Jw1 _ ⟨K186,aR,aV,R,(S182.tr S187).wk R,f188⟩ (KM R)
 rintro _ w175 ⟨K176,ax,aw,rfl,S177,f178⟩
 have h:=hK174
 refine Jp (Jh3 [2,2,1,1,2] 2 R (Jn1 (κ:=K176) (E:=E6) 23 [] (parts:=[(0,.tmp 111)]) (cells:=[vi q7.2]) (xs:=([q7.2]:List Int)) R R R R R R Y29 Tryzinfo2 R R R R R R R R R R ⟨[vi q7.2],[],Zl K176 w175 [],Zl K176 w175 [],R,Zl.sp (l1:=[]) (l2:=[]) R,Zl.sr (l1:=[]) (l2:=[]),R,R⟩ λbe bd w190 K191 S192 f193=>⟨tv,Ob h λx113 hx113 h=>Jm1 (κ:=K191) (E:=E6) 17 [] R R R R R R R R R Y29 Tryzinfo2 R R R R (f105.stp (S110.tr (S159.tr (S171.tr (S177.tr S192)))) R R) (Sl.srcP (bT _) f193.rdc) bJ hx113 R λaW aU w195 K196 S197 f198=>⟨tv,Jc 1 R (Jz (Jp (Jf3 R ?_)))⟩⟩))
 have hw93:hV .i64 (v66+1)=v66+1:=wr1 hj93 (Jm2 hc93) hN93
 rw[hw93]
 have hc93:=Jm2 hc93
 cases h
 exact Jz1 λa ha=>⟨k,_,Ja3 _,⟨K196,v66+1,((q7.1:(List Int)),(x113:(List Int))),ax,aw,aW,aU,R,(S103.tr (S110.tr (S159.tr (S171.tr (S177.tr (S192.tr S197)))))).wk R,(f178.stp (S192.tr S197) R R),f198,by omega,by omega,hk107⟩,(ha.mm R)⟩
 rintro _ w96 ⟨K97,s6,ar,ay,al,aq,rfl,S98,f99,f100,rfl⟩
 have h:=hK94
 dsimp only[aft]at h
 refine Jp (Je [2,1,2,1,1,2,1] R (Jd3 R U31 R Z29 ?_))
 have f200:=f64.stp (S68.tr (S75.tr (S85.tr (S90.tr S98)))) R R
 have S003:=(S68.tr (S75.tr (S85.tr (S90.tr S98))))
 refine Jb3 R I29 (f200.ld 0 R R) (Jn 1 R (Jn1 (κ:=K97) (E:=E6) 18 [] (parts:=[(0,.tmp 117)]) (cells:=[vi (Int.tmod (IntKind.i64.wrap (x54.At-(p1.Next.length:Int))) x60)]) (xs:=([(Int.tmod (IntKind.i64.wrap (x54.At-(p1.Next.length:Int))) x60)]:List Int)) R R R R R R Y29 Tryzinfo2 R R R R R R R R R R ⟨[vi (Int.tmod (IntKind.i64.wrap (x54.At-(p1.Next.length:Int))) x60)],[],Zl K97 w96 [],Zl K97 w96 [],R,Zl.sp (l1:=[]) (l2:=[]) R,Zl.sr (l1:=[]) (l2:=[]),R,R⟩ λba bf w201 K202 S203 f204=>⟨tv,Ob h λx119 hx119 h=>Jm1 (κ:=K202) (E:=E6) 13 [] R R R R R R R R R Y29 Tryzinfo2 R R R R (f62.stp (S003.tr S203) R R) (Sl.srcP (bT _) f204.rdc) bJ hx119 R λau az w206 K207 S208 f209=>⟨tv,Jd3 R U31 R Z29 (Ji1 (κ:=K207) 12 (off:=0) (vc:=[.slice au x119.length az]) (cs':=[.slice au x119.length az,.slice ap s1.2.2.2.length aj]) R R R R R R R Z29 R R (f200.stp (S203.tr S208) R R) R R λw211 S212 f213=>⟨tv,Jd (Ja [2,1,2,1,1,2,1] R (Jd3 R U31 R Z26 (Jb3 R I26 (f213.ld 1 R R) (Jn 1 R (Jn1 (κ:=K207) (E:=(Ep.own E6 2)) 19 [17] (parts:=[(0,.tmp 123)]) (cells:=[.slice al s6.2.length aq]) (xs:=([s6.2]:List (List Int))) R R R R R R Y26 Tryzinfo29 R R R R R R R R R R ⟨[.slice al s6.2.length aq],[],Zl K207 w211 [17],Zl K207 w211 [],R,Zl.sp (l1:=[17]) (l2:=[]) R,Zl.sr (l1:=[17]) (l2:=[]),⟨_,_,R,(f100.stp (S203.tr (S208.tr S212)) R R)⟩,R⟩ λaZ bb w215 K216 S217 f218=>⟨tv,Ob h λx125 hx125 h=>Jm1 (κ:=K216) (E:=(Ep.own E6 2)) 14 [19] R R R R R R R R R Y26 Tryzinfo29 R R R R (f63.stp (S003.tr (S203.tr (S208.tr (S212.tr S217)))) R R) f218.src (cZ R) hx125 R λaI aE w220 K221 S222 f223=>⟨tv,Jd3 R U31 R Z26 (Ji1 (κ:=K221) 12 (off:=1) (vc:=[.slice aI x125.length aE]) (cs':=[.slice au x119.length az,.slice aI x125.length aE]) R R R R R R R Z26 R R (f213.stp (S217.tr S222) R R) R R λw225 S226 f227=>⟨tv,Jo (Jz (Jp (Jf3 R ?_)))⟩)⟩⟩)))))⟩)⟩⟩))
 cases h
 exact Jz1 λa ha=>⟨k,_,Ja3 _,⟨K221,((s6.1:(List Int)),((IntKind.i64.wrap (s1.2.1+1)):Int),(x119:(List Int)),(x125:(List (List Int)))),ar,ay,au,az,aI,aE,R,(S60.tr (S68.tr (S75.tr (S85.tr (S90.tr (S98.tr (S203.tr (S208.tr (S212.tr (S217.tr (S222.tr S226))))))))))).wk R,(f99.stp (S203.tr (S208.tr (S212.tr (S217.tr (S222.tr S226))))) R R),(f209.stp (S212.tr (S217.tr (S222.tr S226))) R R),(f223.stp S226 R R),f227,hk66⟩,(ha.mm R)⟩
 rintro _ w51 ⟨K52,s3,aJ,aM,ai,ad,af,ah,rfl,S53,f54,f55,f56,f57,rfl⟩
 have h:=hK49
 dsimp only[aft]at h
 refine Jp (Je [1,1] R (Jl tv R R R R (Jd2 (cs:=[.slice ai s3.2.2.1.length ad,.slice af s3.2.2.2.length ah]) I31 Z31 R R R (haE f57.cells)) (Jj1 (κ:=K52) 6 (vc:=[.slice ai s3.2.2.1.length ad,.slice af s3.2.2.2.length ah]) R R R R R R R Z31 R R (f20.stp (S31.tr (S39.tr (S43.tr (S46.tr S53)))) R R) R λw232 S233 f234=>⟨tv,Jd (Ju (Ja2 (l:=[.cell 8 31]) V81 (bL R f234 I31 Z31 R R) R ?_))⟩)))
 cases h
 exact⟨(λb=>ren [(13,2),(14,3)] (K52 b)),ai,ad,af,ah,R,((hE.stp (S3.tr (S7.tr (S11.tr (S15.tr (S19.tr (S31.tr (S39.tr (S43.tr (S46.tr (S53.tr S233)))))))))) R R).map (ren [(13,2),(14,3)]) R R),((f55.stp S233 R R).map (ren [(13,2),(14,3)]) R R),((f56.stp S233 R R).map (ren [(13,2),(14,3)]) R R)⟩
end Go.Proofs.YtpcjbkgbnoocaaaGreat
