/- The walks, part 11. By program. -/
import Derived.Test.YtpcjbkgbnoocaaaGreatFns10MO
set_option linter.unusedVariables false
set_option linter.unusedSimpArgs false
open Go.IntKind renaming wrap → t0
open Sum renaming inr → xe
open Int renaming toNat → xh
namespace Go.Proofs.YtpcjbkgbnoocaaaGreat
open Go Go.Wk Go.Proofs
set_option maxRecDepth 100000
set_option maxHeartbeats 1000000
variable {w:World}{κ:Col}
theorem jH {p0:Sig}{aa ad ab ac}{p1:Det}(g1_0:Rd (Rp.sl (Rp.int .i64)) κ w 0 aa ad p1.Next) (g1_1:Rd Pair.rp κ w 0 ab ac p1.Pairs){r:Bool}(h:js p0 p1=some r):Ret Tryz.prog 117 [.agg #[vi p0.In,vi p0.Out],.agg #[.slice aa p1.Next.length ad,.slice ab p1.Pairs.length ac]] w (Pvb κ w r):=by
 unfold js at h
 refine Jk3 κ F117 R N117 R λhE=>Je [1,1,2] R<|Jf1 (κ:=κ) 2 R R R R R R R λb2 w1 K2 S3 f4=>Tv<|Jf1 (κ:=K2) 3 R R R R R R R λb3 w5 K6 S7 f8=>Tv<|Jb 1 R<|Je [2,1,2,2] R<|Jd3 R U100 R Z26<|Jb3 R I26 (f8.ld 0 R R)<|Jn3 R U26 R R<|Jb 1 R<|Jq<|Je [1,1,2,2,2,1,2,2] R ?_
 have f9:=f4.stp S7 R R
 refine Jl tv R R R R (Jd2 (cs:=[vi p0.In,vi p0.Out]) I25 Z25 R R R<|haE f9.cells)<|Ob h λx11 hx11 h=>Jh R R R C102 (kc (κ:=Mk K6) (p0:=p0) hx11) ?_
 rintro _ w10 ⟨k11,rfl,e12⟩
 obtain⟨K13,S14,m15⟩:=Ji e12 4 R
 refine Tv<|Jn 2 R<|Ob h λp17 h hK17=>Ju1 [(4,2),(5,1),(6,2),(7,2)] [] (λL w'=>L=[(2,.pointer (some ⟨b2,0,none⟩)),(3,.pointer (some ⟨b3,0,none⟩)),(5,vi (p1.Next.length:Int)),(17,.bool p17)]/\∃κ',Stp [] K13 w10 κ' w') tv ?_ ?_
 revert h
 cases ht18:(!x11)
 refine JF λh=>Jn 1 R<|Ob h λx15 hx15 h=>Jh R R R C57 (cD (κ:=Mk K13) hx15) ?_
 rintro _ w19 ⟨k20,rfl,e21⟩
 obtain⟨K22,S23,m24⟩:=Ji e21 6 R
 refine Tv<|Jn 2 R ?_
 cases h
 exact Jv1 _ tv ⟨R,_,S23.wk R⟩<|KM R
 refine JT λh=>Jn 1 R<|Jd1 R R R R<|Jn 2 R ?_
 cases h
 exact Jv1 _ tv ⟨R,_,Jj3⟩<|KM R
 rintro _ w26 _ ⟨rfl,K27,S28⟩
 have h:=hK17
 refine Jd ?_
 revert h
 cases ht29:p17
 refine JF λh=>Jy R<|Js<|Jp<|Jq<|Je3 R ?_
 have hN31:(p1.Next.length:Int)<=9223372036854775807:=g1_0.len_le
 refine Ob h λq2 hq33 hK32=>?_
 clear h
 refine Jx1 (λL w'=>∃κ',L=[(3,.pointer (some ⟨b3,0,none⟩)),(5,vi (p1.Next.length:Int))]/\Stp [] K27 w26 κ' w'/\q2=xe ()) ?_ ?_
 refine Jv<|Jy1 (λk L w'=>∃κ' v6,L=[(2,.pointer (some ⟨b2,0,none⟩)),(3,.pointer (some ⟨b3,0,none⟩)),(5,vi (p1.Next.length:Int)),(6,vi v6)]/\Stp [] K27 w26 κ' w'/\0<=v6/\xh ((p1.Next.length:Int)-v6)=k/\cntM (j7 p0 p1) k v6 ()=some q2) ⟨_,_,⟨K27,0,R,Jj3,(by decide),(by simp),hq33⟩,(KM R)⟩ ?_
 rintro k _ w37 ⟨K38,v6,rfl,S39,hj31,hJ31,h⟩
 rcases k with _ | k
 have hk40:=h;obtain⟨o31,h⟩:=bP (xe (Sum.inl ()):Bool⊕((Unit)⊕(Unit)))
 have hc31:decide (v6<(p1.Next.length:Int))=false:=Jo2 (by omega)
 refine Jq<|Jg3 [2,2,1,2,2] 1 R<|Jd3 R U100 R Z26<|Jb3 R I26 ((f8.stp (T3 S14 S28 S39) R R).ld 0 R R)<|Jn3 R U26 R R<|Jb 1 R<|Jw2 R hc31<|Jc1<|Jt<|Jt ?_
 cases h
 have h:=hk40
 refine Jb1 ?_
 cases h
 exact Jw1 _ ⟨K38,R,S39.wk R,R⟩<|KM R
 obtain⟨o31,h,hk40⟩:=BI h;unfold j7 at h
 have hc31:decide (v6<(p1.Next.length:Int))=true:=Jn2 (by omega)
 refine Jq<|Jg3 [2,2,1,2,2] 1 R<|Jd3 R U100 R Z26 ?_
 have f42:=f8.stp (T3 S14 S28 S39) R R
 refine Jb3 R I26 (f42.ld 0 R R)<|Jn3 R U26 R R<|Jb 1 R<|Jv2 R hc31<|Js<|Jp<|Jq<|Jv<|Jq<|Js1 (κ:=K38) [0,2,3] none [(0,2),(2,2),(1,0),(3,2),(4,0),(5,2),(6,0),(7,1),(8,2),(9,2),(10,2),(12,2),(15,2),(11,0),(13,2),(14,0),(16,1),(17,2),(18,2)] [] (by kernel_rfl) (by kernel_rfl) λw44 S43=>Jd3 R U100 R Z26<|Jn 1 R ?_
 have f45:=f42.stp S43 R R
 refine Jg R (Jc2 I26 R R<|hvC (f45.ld 0 R R) R)<|Ob h λx28 hx28 h=>Jc3 R g1_0 hx28 U26 Z29 ?_
 have f46:=g1_0.stp (T6 S3 S7 S14 S28 S39 S43) R R
 obtain⟨ax28,ux28,f47,hl48⟩:=f46.gSl hx28
 refine Jg R (Jc2 I29 R R<|hvC hl48 R)<|Jn3 R U29 R R<|Jg R (Jd2 (cs:=[vi p0.In,vi p0.Out]) I25 Z25 R R R<|haC (f9.stp (T4 S14 S28 S39 S43) R R).cells R)<|Ob h λx32 hx32 h=>Jh R R R C58 (eZ (κ:=Mk K38) (p0:=p0) hx32) ?_
 rintro _ w50 ⟨k51,rfl,e52⟩
 obtain⟨K53,S54,m55⟩:=Ji e52 6 R
 refine⟨(S54.cl R),Jn 2 R<|Ob h λp43 h hK57=>Ju1 [(10,2),(12,2),(15,2),(11,0),(13,2),(14,0),(16,1),(17,2),(18,2)] [] (λL w'=>L=[(2,.pointer (some ⟨b2,0,none⟩)),(3,.pointer (some ⟨b3,0,none⟩)),(5,vi (p1.Next.length:Int)),(6,vi v6),(43,.bool p43)]/\∃κ',Stp [] K53 w50 κ' w') (S54.cl R) ?_ ?_⟩
 revert h
 cases ht58:((x28.length:Int) !=x32)
 refine JF λh=>Jd3 R U100 R Z26<|Jn 2 R<|Jg R (Jc2 I26 R R<|hvC (f45.ld 0 R R) R)<|Ob h λx38 hx38 h=>Jc3 R f46 hx38 U26 Z29 ?_
 obtain⟨ax38,ux38,f59,hl60⟩:=f46.gSl hx38
 refine Jg R (Jc2 I29 R R<|hvC hl60 R)<|Ob h λx41 hx41 h=>Jh R R R C104 (qj (κ:=Mk K53) (Ji3<|f59.stp S54 R R) hx41) ?_
 rintro _ w62 ⟨k63,rfl,e64⟩
 obtain⟨K65,S66,m67⟩:=Ji e64 8 R
 refine⟨((S54.tr S66).cl R),Jn 2 R ?_⟩
 cases h
 exact Jv1 _ ((S54.tr S66).cl R) ⟨R,_,S66.wk R⟩<|KM R
 refine JT λh=>Jn 3 R<|Je1 R R R R<|Jn 1 R<|Je1 R R R R<|Jd1 R R R R<|Jn 2 R ?_
 cases h
 exact Jv1 _ (S54.cl R) ⟨R,_,Jj3⟩<|KM R
 rintro _ w69 _ ⟨rfl,K70,S71⟩
 have h:=hK57
 refine Jt1<|Jd ?_
 revert h
 cases ht72:p43
 refine JF λh=>Jy R<|Js<|Jz<|Jp<|Jf3 R ?_
 have hw31:t0 .i64 (v6+1)=v6+1:=wr1 hj31 (Jm2 hc31) hN31
 rw[hw31]
 have hc31:=Jm2 hc31
 cases h
 exact Jz1 λa ha=>⟨k,_,Ja3 _,⟨K70,v6+1,R,(T4 S39 S43 S54 S71).wk R,by omega,by omega,hk40⟩,(ha.mm R)⟩
 refine JT λh=>Jx R<|Je3 R<|Ju<|Ja1<|Jw<|Jw ?_
 cases h
 obtain rfl:=Option.some.inj hk40
 have h:=yL hK32
 refine Ja1<|Jq2<|Jw<|Ja2 (l:=[.tmp 4]) V117 (Jp2 R R) R ?_
 cases h
 exact⟨K70,R,(hE.stp (T8 S3 S7 S14 S28 S39 S43 S54 S71) R R)⟩
 rintro _ w34 ⟨K35,rfl,S36,rfl⟩
 have h:=yI hK32
 refine Jp<|Je [2,1,2,1,2] R<|Jd3 R U100 R Z98<|Jb3 R I98 ((f8.stp (T3 S14 S28 S36) R R).ld 1 R R)<|Jn 1 R<|Ob h λx47 hx47 h=>Jh R R R C120 (nA (κ:=Mk K35) (Ji3<|g1_1.stp (T5 S3 S7 S14 S28 S36) R R) hx47) ?_
 rintro _ w76 ⟨k77,rfl,e78⟩
 obtain⟨K79,S80,m81⟩:=Ji e78 6 R
 refine Tv<|Jb 1 R<|Ju<|Ja2 (l:=[.tmp 4]) V117 (Jp2 R R) R ?_
 cases h
 exact⟨K79,R,(hE.stp (T6 S3 S7 S14 S28 S36 S80) R R)⟩
 refine JT λh=>Jx R<|Je3 R<|Ju<|Jw<|Ja2 (l:=[.tmp 4]) V117 (Jp2 R R) R ?_
 cases h
 exact⟨K27,R,(hE.stp (T4 S3 S7 S14 S28) R R)⟩
theorem pY {aR aN aM aS}{p0:Arena}{a1 u1}{p1:(List Pair)}{p2:Int}(g0_0:Rd (Rp.int .i64) κ w 0 aR aN p0.Owner) (g0_1:Rd (Rp.sl (Rp.int .i64)) κ w 0 aM aS p0.Next) (g1:Rd Pair.rp κ w 0 a1 u1 p1){r:Parity×(List Place)×Bool}(h:fv p0 p1 p2=some r):Ret Tryz.prog 70 [.agg #[.slice aR p0.Owner.length aN,.slice aM p0.Next.length aS],.slice a1 p1.length u1,vi p2] w (λv w'=>∃(κ':Col) (ra0:Option Addr) (ru0:Nat) (ra1:Option Addr) (ru1:Nat) (ra2:Option Addr) (ru2:Nat) (ra3:Option Addr) (ru3:Nat),v= .tuple #[.agg #[.slice ra0 r.1.Arena.Owner.length ru0,.slice ra1 r.1.Arena.Next.length ru1,.slice ra2 r.1.Prio.length ru2],.slice ra3 r.2.1.length ru3,.bool r.2.2]/\Ent κ w κ' w'/\Oc E6 2 κ' w' 2 ra0 ru0 r.1.Arena.Owner/\Oc (Ep.own E6 2) 29 κ' w' 3 ra1 ru1 r.1.Arena.Next/\Oc E6 2 κ' w' 4 ra2 ru2 r.1.Prio/\Oc (Ep.fz Place.rp) 116 κ' w' 5 ra3 ru3 r.2.1):=by
 unfold fv at h
 refine Jk3 κ F70 R N70 R λhE=>Je [1,1,2,2] R<|Jf1 (κ:=κ) 2 R R R R R R R λb3 w1 K2 S3 f4=>Tv<|Jg1 (κ:=K2) 3 R R R R R X108 R λb6 w5 K6 S7 f8=>Tv<|Jb 2 R<|Je [2,1,2,2] R<|Jd3 R U104 R Z29 ?_
 have f9:=f4.stp S7 R R
 refine Jb3 R I29 (f9.ld 0 R R)<|Jn3 R U29 R R<|Jb 1 R<|Jq<|Je [1,1,2,2,2,2,1,2,2,2,2,2,2,1,2,2] R<|Jl tv R R R R (Jd2 (cs:=[.slice aR p0.Owner.length aN,.slice aM p0.Next.length aS]) I104 Z104 R R R<|haE f9.cells)<|Ob h λx25 hx25 h=>?_
 have f10:=g0_0.stp (S3.tr S7) R R
 have f11:=g0_1.stp (S3.tr S7) R R
 refine Jh R R R C119 (mW (κ:=Mk K6) (p0:=p0) (Ji3 f10) (Ji3 f11) hx25) ?_
 rintro _ w12 ⟨k13,rfl,e14⟩
 obtain⟨K15,S16,m17⟩:=Ji e14 4 R
 refine Tv<|Jn 2 R<|Ob h λp32 h hK19=>Ju1 [(4,2),(5,2),(6,1),(7,2),(8,2)] [(9,2),(10,2),(11,2),(12,2),(13,1),(14,2),(15,2)] (λL w'=>L=[(1,.slice a1 p1.length u1),(2,vi p2),(3,.pointer (some ⟨b3,0,none⟩)),(6,.pointer (some ⟨b6,0,none⟩)),(9,vi (p0.Owner.length:Int)),(32,.bool p32)]/\∃κ',Stp [] K15 w12 κ' w') tv ?_ ?_
 revert h
 cases ht20:(!x25)
 refine JF λh=>Jn 2 R<|Ob h λx30 hx30 h=>Jh R R R C120 (nA (κ:=Mk K15) (Ji3<|g1.stp (T3 S3 S7 S16) R R) hx30) ?_
 rintro _ w22 ⟨k23,rfl,e24⟩
 obtain⟨K25,S26,m27⟩:=Ji e24 6 R
 refine Tv<|Jn 2 R ?_
 cases h
 exact Jv1 _ tv ⟨R,_,S26.wk R⟩<|KM R
 refine JT λh=>Jn 2 R<|Jd1 R R R R<|Jn 2 R ?_
 cases h
 exact Jv1 _ tv ⟨R,_,Jj3⟩<|KM R
 rintro _ w29 _ ⟨rfl,K30,S31⟩
 have h:=hK19
 refine Jn 1 R<|Ob h λp39 h hK32=>Ju1 [(10,2),(11,2),(12,2),(13,1),(14,2),(15,2)] [] (λL w'=>L=[(1,.slice a1 p1.length u1),(2,vi p2),(3,.pointer (some ⟨b3,0,none⟩)),(6,.pointer (some ⟨b6,0,none⟩)),(39,.bool p39)]/\∃κ',Stp [] K30 w29 κ' w') tv ?_ ?_
 revert h
 cases ht33:p32
 refine JF λh=>Jn 3 R<|Ob h λx37 hx37 h=>Jh R R R C57 (cD (κ:=Mk K30) hx37) ?_
 rintro _ w34 ⟨k35,rfl,e36⟩
 obtain⟨K37,S38,m39⟩:=Ji e36 6 R
 refine Tv<|Jn 2 R ?_
 cases h
 exact Jv1 _ tv ⟨R,_,S38.wk R⟩<|KM R
 refine JT λh=>Jn 3 R<|Jd1 R R R R<|Jn 2 R ?_
 cases h
 exact Jv1 _ tv ⟨R,_,Jj3⟩<|KM R
 rintro _ w41 _ ⟨rfl,K42,S43⟩
 have h:=hK32
 refine Jd ?_
 revert h
 cases ht44:p39
 refine JF λh=>Jy R<|Js<|Jp<|Je [1,2] R<|Jo1 (κ:=K42) (E:=E6) 6 R R R R R Y29 bG R λba bg w55 K56 S57 f58=>Tv<|Jb 1 R<|Jq<|Je3 R ?_
 have hN59:(p1.length:Int)<=9223372036854775807:=g1.len_le
 refine Ob h λq2 hq61 hK60=>?_
 clear h
 refine Jx1 (λL w'=>∃κ',∃s3:(List Int),∃ac aj,L=[(1,.slice a1 p1.length u1),(2,vi p2),(3,.pointer (some ⟨b3,0,none⟩)),(6,.pointer (some ⟨b6,0,none⟩)),(10,.slice ac s3.length aj)]/\Stp [6] K56 w55 κ' w'/\Oc E6 2 κ' w' 6 ac aj s3/\q2=xe s3) ?_ ?_
 refine Jv<|Jy1 (λk L w'=>∃κ' v11,∃s1:(List Int),∃aI aE,L=[(1,.slice a1 p1.length u1),(2,vi p2),(3,.pointer (some ⟨b3,0,none⟩)),(6,.pointer (some ⟨b6,0,none⟩)),(10,.slice aI s1.length aE),(11,vi v11)]/\Stp [6] K56 w55 κ' w'/\Oc E6 2 κ' w' 6 aI aE s1/\0<=v11/\xh ((p1.length:Int)-v11)=k/\cntM dE k v11 s1=some q2) ⟨_,_,⟨K56,0,(([]:List Int):(List Int)),ba,bg,R,Jj3,f58,(by decide),(by simp),hq61⟩,(KM R)⟩ ?_
 rintro k _ w66 ⟨K67,v11,s1,aI,aE,rfl,S68,f69,hj59,hJ59,h⟩
 rcases k with _ | k
 have hk70:=h;obtain⟨o59,h⟩:=bP (xe (Sum.inl s1):(Parity×(List Place)×Bool)⊕(((List Int))⊕((List Int))))
 have hc59:decide (v11<(p1.length:Int))=false:=Jo2 (by omega)
 refine Jq<|Jg3 [2,2,2,2] 2 R<|Jn3 R U98 R R<|Jb 1 R<|Jw2 R hc59<|Jc1<|Jt<|Jt ?_
 cases h
 have h:=hk70
 refine Jb1 ?_
 cases h
 exact Jw1 _ ⟨K67,s1,aI,aE,R,S68.wk R,f69,R⟩<|KM R
 obtain⟨o59,h,hk70⟩:=BI h;unfold dE at h
 have hc59:decide (v11<(p1.length:Int))=true:=Jn2 (by omega)
 refine Jq<|Jg3 [2,2,2,2] 2 R<|Jn3 R U98 R R<|Jb 1 R<|Jv2 R hc59<|Js<|Jp<|Jq<|Jv<|Jh3 [2,2,1,1,2] 2 R<|Jn1 (κ:=K67) (E:=E6) 7 [] (parts:=[(0,.tmp 50)]) (cells:=[vi v11]) (xs:=([v11]:List Int)) R R R R R R Y29 bG R R R R R R R R R R ⟨[vi v11],[],Zl K67 w66 [],Zl K67 w66 [],R,Zl.sp (l1:=[]) (l2:=[]) R,Zl.sr (l1:=[]) (l2:=[]),R,R⟩ λbw bx w71 K72 S73 f74=>Tv<|Ob h λx52 hx52 h=>Jm1 (κ:=K72) (E:=E6) 6 [] R R R R R R R R R Y29 bG R R R R (f69.stp S73 R R) (Sl.srcP (bT _) f74.rdc) bK hx52 R λbl aX w76 K77 S78 f79=>Tv<|Jc 1 R<|Jz<|Jp<|Jf3 R ?_
 have hw59:t0 .i64 (v11+1)=v11+1:=wr1 hj59 (Jm2 hc59) hN59
 rw[hw59]
 have hc59:=Jm2 hc59
 cases h
 exact Jz1 λa ha=>⟨k,_,Ja3 _,⟨K77,v11+1,x52,bl,aX,R,(T3 S68 S73 S78).wk R,f79,by omega,by omega,hk70⟩,(ha.mm R)⟩
 rintro _ w62 ⟨K63,s3,ac,aj,rfl,S64,f65,rfl⟩
 have h:=yI hK60
 refine Jp<|Jg3 [2,2,2,1,2] 2 R<|Jf R (bJ (parts:=[(0,.tmp 53),(1,.tmp 54)]) (cells:=[vi p2,.slice ac s3.length aj]) R R (by kernel_rfl)) ?_
 obtain⟨K80,S81,z82⟩:=ea K63 w62 6
 refine Jn1 (κ:=K80) (E:=(Ep.fz Place.rp)) 7 [] (parts:=[(0,.tmp 55)]) (cells:=[vi p2,.slice ac s3.length aj]) (xs:=([(⟨p2,s3⟩:Place)]:List Place)) R R R R R R Y109 ef R R R R R R R R R R ⟨[vi p2,.slice ac s3.length aj],[],Zl K80 w62 [],Zl K80 w62 [],R,Zl.sp (l1:=[]) (l2:=[]) R,Zl.sr (l1:=[]) (l2:=[]),(Place.mk_rel (x:=(⟨p2,s3⟩:Place))<|Sl.z1<|Sl.st z82 f65.rdc),R⟩ λaZ aY w84 K85 S86 f87=>Tv<|Jb 1 R<|Je [2,1,1] R<|Jf R (bJ (parts:=[]) (cells:=[.slice none 0 0,.slice none 0 0,.slice none 0 0]) R R (by kernel_rfl))<|Jg1 (κ:=K85) 8 R R R R R X108 R λb13 w88 K89 S90 f91=>Tv<|Jj1 (κ:=K89) 8 (vc:=[.slice none 0 0,.slice none 0 0,.slice none 0 0]) R R R R R R R Z108 R R f91 R λw92 S93 f94=>Tv<|Jd<|Jq<|Je3 R<|Ob h λq5 hq97 hK96=>?_
 clear h
 refine Jx1 (λL w'=>∃κ',∃s6:(List Place)×Int×(List Int)×(List<|List Int)×(List Int),∃aB aD ae ai af ab aa ad,L=[(6,.pointer (some ⟨b6,0,none⟩)),(12,.slice aB s6.1.length aD),(13,.pointer (some ⟨b13,0,none⟩))]/\Stp [7,8,9,10,11,12,16,19,20,21] K89 w92 κ' w'/\Oc (Ep.fz Place.rp) 116 κ' w' 7 aB aD s6.1/\Oc E6 2 κ' w' 9 ae ai s6.2.2.1/\Oc (Ep.own E6 2) 29 κ' w' 10 af ab s6.2.2.2.1/\Oc E6 2 κ' w' 11 aa ad s6.2.2.2.2/\Bc κ' w' 8 b13 108 [.slice ae s6.2.2.1.length ai,.slice af s6.2.2.2.1.length ab,.slice aa s6.2.2.2.2.length ad]/\q5=xe s6) ?_ ?_
 refine Jv<|Jy1 (λk L w'=>∃κ',∃s4:(List Place)×Int×(List Int)×(List<|List Int)×(List Int),∃av au aH aC ao ap ah ak,L=[(1,.slice a1 p1.length u1),(3,.pointer (some ⟨b3,0,none⟩)),(6,.pointer (some ⟨b6,0,none⟩)),(12,.slice av s4.1.length au),(13,.pointer (some ⟨b13,0,none⟩)),(14,vi s4.2.1)]/\Stp [7,8,9,10,11,12,16,19,20,21] K89 w92 κ' w'/\Oc (Ep.fz Place.rp) 116 κ' w' 7 av au s4.1/\Oc E6 2 κ' w' 9 aH aC s4.2.2.1/\Oc (Ep.own E6 2) 29 κ' w' 10 ao ap s4.2.2.2.1/\Oc E6 2 κ' w' 11 ah ak s4.2.2.2.2/\Bc κ' w' 8 b13 108 [.slice aH s4.2.2.1.length aC,.slice ao s4.2.2.2.1.length ap,.slice ah s4.2.2.2.2.length ak]/\bZ (dF p0 p1) k s4=some q5) ⟨_,_,⟨K89,((([(⟨p2,s3⟩:Place)]:List Place):(List Place)),(0:Int),(([]:List Int):(List Int)),(([]:List (List Int)):(List<|List Int)),(([]:List Int):(List Int))),aZ,aY,none,0,none,0,none,0,R,Jj3,(f87.stp (S90.tr S93) R R),Ow.nil,Ow.nil,Ow.nil,f94,hq97⟩,(KM R)⟩ ?_
 rintro k _ w106 ⟨K107,s4,av,au,aH,aC,ao,ap,ah,ak,rfl,S108,f109,f110,f111,f112,f113,h⟩
 rcases k with _ | k
 cases h
 obtain⟨o95,h,hk115⟩:=BI h;unfold dF at h
 refine Jq<|Jg3 [2,2,2,2] 2 R<|Jn3 R U109 R R<|Jb 1 R ?_
 revert h
 cases ht116:decide (s4.2.1<(s4.1.length:Int))
 refine JF λh=>Jy R<|Jc1<|Jt<|Jt ?_
 cases h
 have h:=hk115
 refine Jb1 ?_
 cases h
 exact Jw1 _ ⟨K107,(s4.1,s4.2.1,s4.2.2.1,s4.2.2.2.1,s4.2.2.2.2),av,au,aH,aC,ao,ap,ah,ak,R,S108.wk R,f109,f110,f111,f112,f113,R⟩<|KM R
 refine JT λh=>Jx R<|Js<|Jp<|Jq<|Jv<|Jg3 [2,2,2,1,1,1] 2 R<|Ob h λx66 hx66 h=>Jc3 R f109.rdc hx66 U109 Z116 ?_
 obtain⟨cse117,hre117,hle117⟩:=Ow.gZS f109 hx66
 obtain⟨ae117_0,ue117_0,rfl,fe117_0⟩:=Place.un hre117
 refine Jl tv R R R R (Jd2 (cs:=[vi x66.At,.slice ae117_0 x66.Record.length ue117_0]) I116 Z116 R R R<|haE hle117)<|Jg1 (κ:=K107) 12 R R R R R X116 R λb15 w118 K119 S120 f121=>Tv<|Jj1 (κ:=K119) 12 (vc:=[vi x66.At,.slice ae117_0 x66.Record.length ue117_0]) R R R R R R R Z116 R R f121 R λw122 S123 f124=>Tv<|Jd<|Jg3 [2,2,1,2,1,1,2] 1 R<|Jd3 R U116 R Z29<|Jb3 R I29 (f124.ld 1 R R)<|Jd3 R U116 R Z2<|Jb3 R I2 (f124.ld 0 R R)<|Ob h λx73 hx73 h=>?_
 have f125:=g1.stp (T14 S3 S7 S16 S31 S43 S57 S64 S81 S86 S90 S93 S108 S120 S123) R R
 have f126:=fe117_0.stp (S120.tr S123) R R
 refine Jh R R R C121 (qN (κ:=Mk K119) (Ji3 f125) (Ji3 f126) hx73) ?_
 rintro _ w127 ⟨k128,aW,aT,rfl,e129,f130⟩
 obtain⟨K131,S132,m133⟩:=Ji e129 13 R
 refine Tv<|Jb 1 R<|Je [1,2] R<|Jo1 (κ:=K131) (E:=E6) 16 R R R R R Y29 bG R λbi bf w136 K137 S138 f139=>Tv<|Jb 1 R<|Jq<|Je3 R<|Ob h λq8 hq142 hK141=>?_
 clear h
 refine Jx1 (λL w'=>∃κ',∃s9:(List Place)×(List Int)×Int,∃aG aA aQ aL,L=[(1,.slice a1 p1.length u1),(3,.pointer (some ⟨b3,0,none⟩)),(6,.pointer (some ⟨b6,0,none⟩)),(12,.slice aG s9.1.length aA),(13,.pointer (some ⟨b13,0,none⟩)),(14,vi s4.2.1),(15,.pointer (some ⟨b15,0,none⟩)),(17,.slice aQ s9.2.1.length aL)]/\Stp [7,16,19,20] K137 w136 κ' w'/\Oc (Ep.fz Place.rp) 116 κ' w' 7 aG aA s9.1/\Oc E6 2 κ' w' 16 aQ aL s9.2.1/\q8=xe s9) ?_ ?_
 refine Jv<|Jy1 (λk L w'=>∃κ',∃s7:(List Place)×(List Int)×Int,∃am ar an aw,L=[(1,.slice a1 p1.length u1),(3,.pointer (some ⟨b3,0,none⟩)),(6,.pointer (some ⟨b6,0,none⟩)),(12,.slice am s7.1.length ar),(13,.pointer (some ⟨b13,0,none⟩)),(14,vi s4.2.1),(15,.pointer (some ⟨b15,0,none⟩)),(16,.slice aW x73.length aT),(17,.slice an s7.2.1.length aw),(18,vi s7.2.2)]/\Stp [7,16,19,20] K137 w136 κ' w'/\Oc (Ep.fz Place.rp) 116 κ' w' 7 am ar s7.1/\Oc E6 2 κ' w' 16 an aw s7.2.1/\bZ (eI p0 x66 x73) k s7=some q8) ⟨_,_,⟨K137,(s4.1,(([]:List Int):(List Int)),(0:Int)),av,au,bi,bf,R,Jj3,(f109.stp (T4 S120 S123 S132 S138) R R),f139,hq142⟩,(KM R)⟩ ?_
 rintro k _ w148 ⟨K149,s7,am,ar,an,aw,rfl,S150,f151,f152,h⟩
 rcases k with _ | k
 cases h
 obtain⟨o140,h,hk154⟩:=BI h;unfold eI at h
 refine Jq<|Jg3 [2,2,1,2,1,2,1,2,2] 1 R<|Jd3 R U104 R Z26 ?_
 have f155:=f9.stp (T15 S16 S31 S43 S57 S64 S81 S86 S90 S93 S108 S120 S123 S132 S138 S150) R R
 refine Jb3 R I26 (f155.ld 1 R R)<|Jd3 R U116 R Z2 ?_
 have f156:=f124.stp (T3 S132 S138 S150) R R
 refine Jb3 R I2 (f156.ld 0 R R)<|Ob h λx80 hx80 h=>Jc3 R f11 hx80 U26 Z29 ?_
 have f157:=f11.stp (T15 S16 S31 S43 S57 S64 S81 S86 S90 S93 S108 S120 S123 S132 S138 S150) R R
 obtain⟨ax80,ux80,f158,hl159⟩:=f157.gSl hx80
 refine Jb3 R I29 hl159<|Jn3 R U29 R R<|Jb 1 R ?_
 revert h
 cases ht160:decide (s7.2.2<(x80.length:Int))
 refine JF λh=>Jy R<|Jc1<|Jt<|Jt ?_
 cases h
 have h:=hk154
 refine Jb1 ?_
 cases h
 exact Jw1 _ ⟨K149,(s7.1,s7.2.1,s7.2.2),am,ar,an,aw,R,S150.wk R,f151,f152,R⟩<|KM R
 refine JT λh=>Jx R<|Js<|Jp<|Jq<|Jv<|Je [2,1,2,1,2,1,2,2,1,2] R<|Jd3 R U104 R Z26<|Jb3 R I26 (f155.ld 1 R R)<|Jd3 R U116 R Z2<|Jb3 R I2 (f156.ld 0 R R)<|Ob h λx90 hx90 h=>Jc3 R f157 hx90 U26 Z29 ?_
 obtain⟨ax90,ux90,f161,hl162⟩:=f157.gSl hx90
 refine Jb3 R I29 hl162<|Jn 1 R<|Ob h λx93 hx93 h=>Jc3 R f161 hx93 U29 Z2<|Jb3 R I2 (f161.gInt hx93)<|Jb 1 R<|Jg3 [2,2,2,1,2] 3 R<|Ob h λx98 hx98 h=>?_
 have f163:=(f130.mx (bI _) m133 R (R:13+2=15)).stp (S138.tr S150) R R
 refine Jh R R R C122 (qM (κ:=Mk K149) (Ji3 f151.rdc) (Ji3 f163.rdc) hx98) ?_
 rintro _ w164 ⟨k165,rfl,e166⟩
 obtain⟨K167,S168,m169⟩:=Ji e166 17 R
 refine Tv<|Jb 1 R<|Jq<|Je3 R<|Ob h λq10 h hK171=>Jx1 (λL w'=>∃κ',∃z10:(List Place)×Int,∃aF ax,L=[(1,.slice a1 p1.length u1),(3,.pointer (some ⟨b3,0,none⟩)),(6,.pointer (some ⟨b6,0,none⟩)),(12,.slice aF z10.1.length ax),(13,.pointer (some ⟨b13,0,none⟩)),(14,vi s4.2.1),(15,.pointer (some ⟨b15,0,none⟩)),(16,.slice aW x73.length aT),(17,.slice an s7.2.1.length aw),(18,vi s7.2.2),(20,vi z10.2)]/\Stp [7,19,20] K167 w164 κ' w'/\Oc (Ep.fz Place.rp) 116 κ' w' 7 aF ax z10.1/\q10=xe z10) ?_ ?_
 revert h
 cases ht176:decide (x98<0)
 refine JF λh=>Jy R<|Js ?_
 cases h
 exact Jw1 _ ⟨K167,(s7.1,x98),am,ar,R,Jj3,(f151.stp S168 R R),R⟩<|KM R
 refine JT λh=>Jx R<|Jg3 [2,2,2] 1 R<|Jn3 R U109 R R<|Jb 1 R<|Jq<|Je3 R ?_
 revert h
 cases ht177:decide (256<=(s7.1.length:Int))
 refine JF λh=>Jy R<|Js<|Jp<|Jh3 [2,2,1,2,1,2,1,1,2] 2 R<|Jo1 (κ:=K167) (E:=E6) 19 R R R R R Y29 bG R λbB br w188 K189 S190 f191=>Tv<|Jn 1 R<|Ob h λx111 hx111 h=>Jm1 (κ:=K189) (E:=E6) 19 [] R R R R R R R R R Y29 bG R R R R f191 (Sl.srcP (bT _) (f163.stp (S168.tr S190) R R).rdc) bK hx111 R λaJ aP w193 K194 S195 f196=>Tv<|Jf R (bJ (parts:=[(0,.tmp 108),(1,.tmp 111)]) (cells:=[vi x93,.slice aJ x111.length aP]) R R (by kernel_rfl)) ?_
 obtain⟨K197,S198,z199⟩:=ea K194 w193 19
 refine Jn1 (κ:=K197) (E:=(Ep.fz Place.rp)) 20 [] (parts:=[(0,.tmp 112)]) (cells:=[vi x93,.slice aJ x111.length aP]) (xs:=([(⟨x93,x111⟩:Place)]:List Place)) R R R R R R Y109 ef R R R R R R R R R R ⟨[vi x93,.slice aJ x111.length aP],[],Zl K197 w193 [],Zl K197 w193 [],R,Zl.sp (l1:=[]) (l2:=[]) R,Zl.sr (l1:=[]) (l2:=[]),(Place.mk_rel (x:=(⟨x93,x111⟩:Place))<|Sl.z1<|Sl.st z199 f196.rdc),R⟩ λbv bq w201 K202 S203 f204=>Tv<|Ob h λx114 hx114 h=>Jm1 (κ:=K202) (E:=(Ep.fz Place.rp)) 7 [20] R R R R R R R R R Y109 ef R R R R (f151.stp (T5 S168 S190 S195 S198 S203) R R) f204.src (dd R) hx114 R λbh bc w206 K207 S208 f209=>Tv<|Jc 1 R ?_
 cases h
 exact Jw1 _ ⟨K207,(x114,((s7.1.length:Int):Int)),bh,bc,R,(T5 S190 S195 S198 S203 S208).wk R,f209,R⟩<|KM R
 refine JT λh=>Jx R<|Je [2,1,1,2,2] R<|Jf R (bJ (parts:=[]) (cells:=[.slice none 0 0,.slice none 0 0,.slice none 0 0]) R R (by kernel_rfl))<|Jo1 (κ:=K167) (E:=(Ep.fz Place.rp)) 19 R R R R R Y109 ef R λbe bb w178 K179 S180 f181=>Tv<|Jj1 (κ:=K179) 3 (vc:=[.slice none 0 0,.slice none 0 0,.slice none 0 0]) R R R R R R R Z108 R R (f8.stp (S16.tr<|S31.tr<|S43.tr<|S57.tr<|S64.tr<|S81.tr<|S86.tr<|S90.tr<|S93.tr<|S108.tr<|S120.tr<|S123.tr<|S132.tr<|S138.tr<|S150.tr<|S168.tr S180) R R) R λw183 S184 f185=>Tv<|Jb 2 R<|Ju<|Jw<|Jq2 ?_
 cases h
 have h:=hK171
 dsimp only[aft]at h
 refine Jw<|Ja1<|Jw<|Jw ?_
 cases h
 obtain rfl:=Option.some.inj hk154
 have h:=yL hK141
 refine Ja1<|Jq2<|Jw<|Ja1<|Jw<|Jw ?_
 cases h
 obtain rfl:=Option.some.inj hk115
 have h:=yL hK96
 refine Ja1<|Jq2<|Jw<|Ja2 (l:=[.cell 6 108,.tmp 7,.tmp 8]) V70 (bL R f185 I108 Z108 R<|Jp2 R<|Jp2 R R) R ?_
 cases h
 exact⟨(λb=>ren [(19,5)]<|K179 b),none,0,none,0,none,0,be,bb,R,((hE.stp (S3.tr<|S7.tr<|S16.tr<|S31.tr<|S43.tr<|S57.tr<|S64.tr<|S81.tr<|S86.tr<|S90.tr<|S93.tr<|S108.tr<|S120.tr<|S123.tr<|S132.tr<|S138.tr<|S150.tr<|S168.tr<|S180.tr S184) R R).map (ren [(19,5)]) R R),Ow.nil,Ow.nil,Ow.nil,((f181.stp S184 R R).map (ren [(19,5)]) R R)⟩
 rintro _ w172 ⟨K173,z10,aF,ax,rfl,S174,f175,rfl⟩
 have h:=yI hK171
 refine Jp<|Jh3 [2,2,1,1,2] 2 R<|Jn1 (κ:=K173) (E:=E6) 19 [] (parts:=[(0,.tmp 116)]) (cells:=[vi z10.2]) (xs:=([z10.2]:List Int)) R R R R R R Y29 bG R R R R R R R R R R ⟨[vi z10.2],[],Zl K173 w172 [],Zl K173 w172 [],R,Zl.sp (l1:=[]) (l2:=[]) R,Zl.sr (l1:=[]) (l2:=[]),R,R⟩ λbs bA w211 K212 S213 f214=>Tv<|Ob h λx118 hx118 h=>Jm1 (κ:=K212) (E:=E6) 16 [] R R R R R R R R R Y29 bG R R R R (f152.stp (T3 S168 S174 S213) R R) (Sl.srcP (bT _) f214.rdc) bK hx118 R λbm bk w216 K217 S218 f219=>Tv<|Jc 1 R<|Jz<|Jp<|Jf3 R ?_
 cases h
 exact Jz1 λa ha=>⟨k,_,Ja3 _,⟨K217,(z10.1,x118,((IntKind.i64.wrap<|s7.2.2+1):Int)),aF,ax,bm,bk,R,(T5 S150 S168 S174 S213 S218).wk R,(f175.stp (S213.tr S218) R R),f219,hk154⟩,(ha.mm R)⟩
 rintro _ w143 ⟨K144,s9,aG,aA,aQ,aL,rfl,S145,f146,f147,rfl⟩
 have h:=yI hK141
 refine Jp<|Jq<|Js1 (κ:=K144) [0,2,8,12] (some 13) [(0,2),(1,2),(3,2),(5,2),(2,0),(4,0),(6,0),(7,2),(8,0),(9,1),(10,1),(11,2),(12,2)] [(13,1)] (by kernel_rfl) (by kernel_rfl) λw222 S221=>Jd3 R U108 R Z104<|Jd3 R U104 R Z29<|Jd3 R U104 R Z29<|Jd3 R U116 R Z2 ?_
 have f223:=f113.stp (T6 S120 S123 S132 S138 S145 S221) R R
 refine Jg R (Jc2 I29 R R<|hvC (f223.ld 0 R R) R)<|Jg R (Jc2 I29 R R<|hvC ((f9.stp (T16 S16 S31 S43 S57 S64 S81 S86 S90 S93 S108 S120 S123 S132 S138 S145 S221) R R).ld 0 R R) R) ?_
 have f225:=f124.stp (T4 S132 S138 S145 S221) R R
 refine Jg R (Jc2 I2 R R<|hvC (f225.ld 0 R R) R)<|Ob h λx126 hx126 h=>Jc3 R f10 hx126 U29 Z2<|Jg R (Jc2 I2 R R<|hvC ((f10.stp (T16 S16 S31 S43 S57 S64 S81 S86 S90 S93 S108 S120 S123 S132 S138 S145 S221) R R).gInt hx126) R)<|Jn1 (κ:=K144) (E:=E6) 17 [] (parts:=[(0,.tmp 127)]) (cells:=[vi x126]) (xs:=([x126]:List Int)) R R R R R R Y29 bG R R R R R R R R R R ⟨[vi x126],[],Zl K144 w222 [],Zl K144 w222 [],R,Zl.sp (l1:=[]) (l2:=[]) R,Zl.sr (l1:=[]) (l2:=[]),R,R⟩ λbt bu w227 K228 S229 f230=>⟨(S229.cl R),Ob h λx129 hx129 h=>Jm1 (κ:=K228) (E:=E6) 9 [] R R R R R R R R R Y29 bG R R R R (f110.stp (T7 S120 S123 S132 S138 S145 S221 S229) R R) (Sl.srcP (bT _) f230.rdc) bK hx129 R λal aq w232 K233 S234 f235=>⟨((S229.tr S234).cl R),Jd3 R U108 R Z104<|Jd3 R U104 R Z29<|Jt1<|Ji1 (κ:=K233) 8 (off:=0) (vc:=[.slice al x129.length aq]) (cs':=[.slice al x129.length aq,.slice ao s4.2.2.2.1.length ap,.slice ah s4.2.2.2.2.length ak]) R R R R R R R Z29 R R (f223.stp (S229.tr S234) R R) R R λw237 S238 f239=>Tv<|Jd<|Jq<|Js1 (κ:=K233) [8] (some 9) [(0,2),(1,2),(3,2),(2,0),(4,1),(5,1),(6,1),(7,2),(8,2)] [(9,1)] (by kernel_rfl) (by kernel_rfl) λw241 S240=>Jd3 R U108 R Z104<|Jd3 R U104 R Z26<|Jn 1 R ?_⟩⟩
 have f242:=f239.stp S240 R R
 refine Jg R (Jc2 I26 R R<|hvC (f242.ld 1 R R) R)<|Ob h λx136 hx136 h=>Jh R R R C123 (pv (κ:=Mk K233) (Ji3 (f147.stp (T5 S221 S229 S234 S238 S240) R R).rdc) hx136) ?_
 rintro _ w244 ⟨k245,aU,aV,rfl,e246,f247⟩
 obtain⟨K248,S249,m250⟩:=Ji e246 18 R
 refine⟨(S249.cl R),Jn1 (κ:=K248) (E:=(Ep.own E6 2)) 21 [20] (parts:=[(0,.tmp 136)]) (cells:=[.slice aU x136.length aV]) (xs:=([x136]:List (List Int))) R R R R R R Y26 bN R R R R R R R R R R ⟨[.slice aU x136.length aV],[],Zl K248 w244 [20],Zl K248 w244 [],R,Zl.sp (l1:=[20]) (l2:=[]) R,Zl.sr (l1:=[20]) (l2:=[]),⟨_,_,R,(f247.mx (bI _) m250 R (R:18+2=20))⟩,R⟩ λbp bz w253 K254 S255 f256=>⟨((S249.tr S255).cl R),Ob h λx138 hx138 h=>Jm1 (κ:=K254) (E:=(Ep.own E6 2)) 10 [21] R R R R R R R R R Y26 bN R R R R (f111.stp (T12 S120 S123 S132 S138 S145 S221 S229 S234 S238 S240 S249 S255) R R) f256.src (dd R) hx138 R λay az w258 K259 S260 f261=>⟨((T3 S249 S255 S260).cl R),Jd3 R U108 R Z104<|Jd3 R U104 R Z26<|Jt1<|Ji1 (κ:=K259) 8 (off:=1) (vc:=[.slice ay x138.length az]) (cs':=[.slice al x129.length aq,.slice ay x138.length az,.slice ah s4.2.2.2.2.length ak]) R R R R R R R Z26 R R (f242.stp (T3 S249 S255 S260) R R) R R λw263 S264 f265=>Tv<|Jd<|Js1 (κ:=K259) [8,12] (some 11) [(0,2),(2,2),(3,2),(5,2),(1,0),(4,0),(6,0),(7,1),(8,1),(9,1),(10,2)] [(11,1)] (by kernel_rfl) (by kernel_rfl) λw267 S266=>Jd3 R U108 R Z29<|Jn 1 R<|Jd3 R U116 R Z29<|Jd3 R U116 R Z2 ?_⟩⟩⟩
 have f268:=f265.stp S266 R R
 refine Jg R (Jc2 I29 R R<|hvC (f268.ld 2 R R) R) ?_
 have f269:=f225.stp (T9 S229 S234 S238 S240 S249 S255 S260 S264 S266) R R
 have S001:=(T13 S132 S138 S145 S221 S229 S234 S238 S240 S249 S255 S260 S264 S266)
 refine Jg R (Jc2 I29 R R<|hvC (f269.ld 1 R R) R)<|Jg R (Jc2 I2 R R<|hvC (f269.ld 0 R R) R)<|Ob h λx148 hx148 h=>Jh R R R C124 (qR (κ:=Mk K259) (Ji3<|f125.stp S001 R R) (Ji3<|f126.stp S001 R R) hx148) ?_
 rintro _ w272 ⟨k273,rfl,e274⟩
 obtain⟨K275,S276,m277⟩:=Ji e274 22 R
 refine⟨(S276.cl R),Jn1 (κ:=K275) (E:=E6) 24 [] (parts:=[(0,.tmp 148)]) (cells:=[vi x148]) (xs:=([x148]:List Int)) R R R R R R Y29 bG R R R R R R R R R R ⟨[vi x148],[],Zl K275 w272 [],Zl K275 w272 [],R,Zl.sp (l1:=[]) (l2:=[]) R,Zl.sr (l1:=[]) (l2:=[]),R,R⟩ λbn bo w279 K280 S281 f282=>⟨((S276.tr S281).cl R),Ob h λx150 hx150 h=>Jm1 (κ:=K280) (E:=E6) 11 [] R R R R R R R R R Y29 bG R R R R (f112.stp (S120.tr<|S123.tr<|S132.tr<|S138.tr<|S145.tr<|S221.tr<|S229.tr<|S234.tr<|S238.tr<|S240.tr<|S249.tr<|S255.tr<|S260.tr<|S264.tr<|S266.tr<|S276.tr S281) R R) (Sl.srcP (bT _) f282.rdc) bK hx150 R λaK aO w284 K285 S286 f287=>⟨((T3 S276 S281 S286).cl R),Jd3 R U108 R Z29<|Jt1<|Ji1 (κ:=K285) 8 (off:=2) (vc:=[.slice aK x150.length aO]) (cs':=[.slice al x129.length aq,.slice ay x138.length az,.slice aK x150.length aO]) R R R R R R R Z29 R R (f268.stp (T3 S276 S281 S286) R R) R R λw289 S290 f291=>Tv<|Jo<|Jz<|Jp<|Jf3 R ?_⟩⟩⟩
 cases h
 exact Jz1 λa ha=>⟨k,_,Ja3 _,⟨K285,(s9.1,((IntKind.i64.wrap<|s4.2.1+1):Int),x129,x138,x150),aG,aA,al,aq,ay,az,aK,aO,R,(S108.tr<|S120.tr<|S123.tr<|S132.tr<|S138.tr<|S145.tr<|S221.tr<|S229.tr<|S234.tr<|S238.tr<|S240.tr<|S249.tr<|S255.tr<|S260.tr<|S264.tr<|S266.tr<|S276.tr<|S281.tr<|S286.tr S290).wk R,(f146.stp (T14 S221 S229 S234 S238 S240 S249 S255 S260 S264 S266 S276 S281 S286 S290) R R),(f235.stp (T11 S238 S240 S249 S255 S260 S264 S266 S276 S281 S286 S290) R R),(f261.stp (T6 S264 S266 S276 S281 S286 S290) R R),(f287.stp S290 R R),f291,hk115⟩,(ha.mm R)⟩
 rintro _ w98 ⟨K99,s6,aB,aD,ae,ai,af,ab,aa,ad,rfl,S100,f101,f102,f103,f104,f105,rfl⟩
 have h:=yI hK96
 refine Jp<|Je [1,2,1,2,2] R<|Jl tv R R R R (Jd2 (cs:=[.slice ae s6.2.2.1.length ai,.slice af s6.2.2.2.1.length ab,.slice aa s6.2.2.2.2.length ad]) I108 Z108 R R R<|haE f105.cells)<|Jn 1 R<|Jj1 (κ:=K99) 3 (vc:=[.slice ae s6.2.2.1.length ai,.slice af s6.2.2.2.1.length ab,.slice aa s6.2.2.2.2.length ad]) R R R R R R R Z108 R R (f8.stp (T10 S16 S31 S43 S57 S64 S81 S86 S90 S93 S100) R R) R λw297 S298 f299=>Tv<|Jb 2 R<|Ju<|Ja2 (l:=[.cell 6 108,.tmp 7,.tmp 8]) V70 (bL R f299 I108 Z108 R<|Jp2 R<|Jp2 R R) R ?_
 cases h
 exact⟨(λb=>ren [(9,2),(10,3),(11,4),(7,5)]<|K99 b),ae,ai,af,ab,aa,ad,aB,aD,R,((hE.stp (T13 S3 S7 S16 S31 S43 S57 S64 S81 S86 S90 S93 S100 S298) R R).map (ren [(9,2),(10,3),(11,4),(7,5)]) R R),((f102.stp S298 R R).map (ren [(9,2),(10,3),(11,4),(7,5)]) R R),((f103.stp S298 R R).map (ren [(9,2),(10,3),(11,4),(7,5)]) R R),((f104.stp S298 R R).map (ren [(9,2),(10,3),(11,4),(7,5)]) R R),((f101.stp S298 R R).map (ren [(9,2),(10,3),(11,4),(7,5)]) R R)⟩
 refine JT λh=>Jx R<|Je [2,1,1,2,2] R<|Jf R (bJ (parts:=[]) (cells:=[.slice none 0 0,.slice none 0 0,.slice none 0 0]) R R (by kernel_rfl))<|Jo1 (κ:=K42) (E:=(Ep.fz Place.rp)) 6 R R R R R Y109 ef R λbd bj w45 K46 S47 f48=>Tv<|Jj1 (κ:=K46) 3 (vc:=[.slice none 0 0,.slice none 0 0,.slice none 0 0]) R R R R R R R Z108 R R (f8.stp (T4 S16 S31 S43 S47) R R) R λw50 S51 f52=>Tv<|Jb 2 R<|Ju<|Jw<|Ja2 (l:=[.cell 6 108,.tmp 7,.tmp 8]) V70 (bL R f52 I108 Z108 R<|Jp2 R<|Jp2 R R) R ?_
 cases h
 exact⟨(λb=>ren [(6,5)]<|K46 b),none,0,none,0,none,0,bd,bj,R,((hE.stp (T7 S3 S7 S16 S31 S43 S47 S51) R R).map (ren [(6,5)]) R R),Ow.nil,Ow.nil,Ow.nil,((f48.stp S51 R R).map (ren [(6,5)]) R R)⟩
theorem rP {aw ar au aq av ay}{p0:Parity}{a1 u1}{p1:(List Int)}(g0_0_0:Rd (Rp.int .i64) κ w 0 aw ar p0.Arena.Owner) (g0_0_1:Rd (Rp.sl (Rp.int .i64)) κ w 0 au aq p0.Arena.Next) (g0_1:Rd (Rp.int .i64) κ w 0 av ay p0.Prio) (g1:Rd (Rp.int .i64) κ w 0 a1 u1 p1){r:Parity×Bool}(h:mc p0 p1=some r):Ret Tryz.prog 211 [.agg #[.slice aw p0.Arena.Owner.length ar,.slice au p0.Arena.Next.length aq,.slice av p0.Prio.length ay],.slice a1 p1.length u1] w (λv w'=>∃(κ':Col) (ra0:Option Addr) (ru0:Nat) (ra1:Option Addr) (ru1:Nat) (ra2:Option Addr) (ru2:Nat),v= .tuple #[.agg #[.slice ra0 r.1.Arena.Owner.length ru0,.slice ra1 r.1.Arena.Next.length ru1,.slice ra2 r.1.Prio.length ru2],.bool r.2]/\Ent κ w κ' w'/\Oc E6 2 κ' w' 2 ra0 ru0 r.1.Arena.Owner/\Oc (Ep.own E6 2) 29 κ' w' 3 ra1 ru1 r.1.Arena.Next/\Oc E6 2 κ' w' 4 ra2 ru2 r.1.Prio):=by
 unfold mc at h
 refine Jk3 κ F211 R N211 R λhE=>Je [1,1,2] R<|Jf1 (κ:=κ) 2 R R R R R R R λb2 w1 K2 S3 f4=>Tv<|Jg1 (κ:=K2) 3 R R R R R X108 R λb4 w5 K6 S7 f8=>Tv<|Jb 1 R<|Jq<|Je [1,1,2,2,1,2,1,2,2] R ?_
 have f9:=f4.stp S7 R R
 refine Jl tv R R R R (Jd2 (cs:=[.slice aw p0.Arena.Owner.length ar,.slice au p0.Arena.Next.length aq,.slice av p0.Prio.length ay]) I108 Z108 R R R<|haE f9.cells)<|Ob h λx10 hx10 h=>?_
 have f10:=g0_0_0.stp (S3.tr S7) R R
 have f11:=g0_0_1.stp (S3.tr S7) R R
 have f12:=g0_1.stp (S3.tr S7) R R
 refine Jh R R R C125 (mF (κ:=Mk K6) (p0:=p0) (Ji3 f10) (Ji3 f11) (Ji3 f12) hx10) ?_
 rintro _ w13 ⟨k14,rfl,e15⟩
 obtain⟨K16,S17,m18⟩:=Ji e15 4 R
 refine Tv<|Jn 2 R<|Ob h λp17 h hK20=>Ju1 [(4,1),(5,2),(6,1),(7,2),(8,2)] [] (λL w'=>L=[(1,.slice a1 p1.length u1),(2,.pointer (some ⟨b2,0,none⟩)),(4,.pointer (some ⟨b4,0,none⟩)),(17,.bool p17)]/\∃κ',Stp [] K16 w13 κ' w') tv ?_ ?_
 revert h
 cases ht21:(!x10)
 refine JF λh=>Jl tv R R R R (Jd2 (cs:=[.slice aw p0.Arena.Owner.length ar,.slice au p0.Arena.Next.length aq,.slice av p0.Prio.length ay]) I108 Z108 R R R<|haE (f9.stp S17 R R).cells)<|Jn 1 R<|Ob h λx15 hx15 h=>Jh R R R C239 (qD (κ:=Mk K16) (p0:=p0) (Ji3<|f10.stp S17 R R) (Ji3<|f11.stp S17 R R) (Ji3<|f12.stp S17 R R) (Ji3<|g1.stp (T3 S3 S7 S17) R R) hx15) ?_
 rintro _ w27 ⟨k28,rfl,e29⟩
 obtain⟨K30,S31,m32⟩:=Ji e29 6 R
 refine Tv<|Jn 2 R ?_
 cases h
 exact Jv1 _ tv ⟨R,_,S31.wk R⟩<|KM R
 refine JT λh=>Jd1 R R R R<|Jn 1 R<|Jd1 R R R R<|Jn 2 R ?_
 cases h
 exact Jv1 _ tv ⟨R,_,Jj3⟩<|KM R
 rintro _ w34 _ ⟨rfl,K35,S36⟩
 have h:=hK20
 refine Jd ?_
 revert h
 cases ht37:p17
 refine JF λh=>Jy R<|Js<|Jp<|Jq<|Ob h λx22 hx22 h=>Ob h λx26 hx26 h=>Jx1 (λL w'=>∃κ' b6 ae ah ap ao af ai,L=[(1,.slice a1 p1.length u1),(2,.pointer (some ⟨b2,0,none⟩)),(4,.pointer (some ⟨b4,0,none⟩)),(6,.pointer (some ⟨b6,0,none⟩))]/\Stp [6,8,9,11,12] K35 w34 κ' w'/\Oc E6 2 κ' w' 6 ae ah (((⟨(⟨x22,([]:List (List Int))⟩:Arena),x26⟩:Parity).Arena).Owner)/\Oc (Ep.own E6 2) 29 κ' w' 7 ap ao (((⟨(⟨x22,([]:List (List Int))⟩:Arena),x26⟩:Parity).Arena).Next)/\Oc E6 2 κ' w' 8 af ai ((⟨(⟨x22,([]:List (List Int))⟩:Arena),x26⟩:Parity).Prio)/\Bc κ' w' 9 b6 108 [.slice ae (((⟨(⟨x22,([]:List (List Int))⟩:Arena),x26⟩:Parity).Arena).Owner).length ah,.slice ap (((⟨(⟨x22,([]:List (List Int))⟩:Arena),x26⟩:Parity).Arena).Next).length ao,.slice af ((⟨(⟨x22,([]:List (List Int))⟩:Arena),x26⟩:Parity).Prio).length ai]) ?_ ?_
 refine WC.rxt (κ:=K35) [2] none (by kernel_rfl) λw51 S52=>Jq1 (fuel:=6) [(0,2),(1,2),(5,2),(2,0),(6,0)] (by kernel_rfl) (by kernel_rfl) R<|Jd3 R U108 R Z104<|Jd3 R U104 R Z29<|Jd3 R U108 R Z29 ?_
 have f53:=f9.stp (T3 S17 S36 S52) R R
 refine Jg R (Jc2 I29 R R<|hvC (f53.ld 0 R R) R)<|Jg R (Jc2 I29 R R<|hvC (f53.ld 2 R R) R)<|Jp1<|WA.fork2 (fuel:=5) 3 9 (by kernel_rfl) R ?_ ?_
 refine Jh R R R C56 (dx (κ:=Mk K35) (Ji3<|f10.stp (T3 S17 S36 S52) R R) hx22) ?_
 rintro _ w55 ⟨k56,aa,ab,rfl,e57,f58⟩
 obtain⟨K59,S60,m61⟩:=Ji e57 6 R
 refine⟨(S60.cl R),?_⟩
 have f63:=f58.mx (bI _) m61 R (R:6+2=8)
 refine Jp1<|Jq1 (fuel:=4) [(4,2)] (by kernel_rfl) (by kernel_rfl) R<|Jf R (bJ (parts:=[(0,.tmp 22)]) (cells:=[.slice aa x22.length ab,.slice none 0 0]) R R (by kernel_rfl))<|Jp1<|WA.fork2 (fuel:=3) 7 9 (by kernel_rfl) R ?_ ?_
 refine Jh R R R C56 (dx (κ:=Mk K59) (Ji3<|f12.stp (T4 S17 S36 S52 S60) R R) hx26) ?_
 rintro _ w65 ⟨k66,ad,ac,rfl,e67,f68⟩
 obtain⟨K69,S70,m71⟩:=Ji e67 9 R
 exact⟨((S60.tr S70).cl R),Jp1<|Jq1 (fuel:=0) [(8,2),(9,1),(10,1)] (by kernel_rfl) (by kernel_rfl) R<|Jf R (bJ (parts:=[(0,.tmp 23),(1,.tmp 26)]) (cells:=[.slice aa x22.length ab,.slice none 0 0,.slice ad x26.length ac]) R R (by kernel_rfl))<|Jg1 (κ:=K69) 12 R R R R R X108 R λb6 w74 K75 S76 f77=>⟨((T3 S60 S70 S76).cl R),Jj1 (κ:=K75) 12 (vc:=[.slice aa x22.length ab,.slice none 0 0,.slice ad x26.length ac]) R R R R R R R Z108 R R f77 R λw78 S79 f80=>⟨((T4 S60 S70 S76 S79).cl R),Jp1<|Jr1 [] (by kernel_rfl) (by kernel_rfl) R<|Jo<|Jw1 _ ⟨(λb=>ren [(8,6),(11,8),(12,9)]<|K75 b),b6,aa,ab,none,0,ad,ac,R,(Jy2 ((T5 S52 S60 S70 S76 S79).wk R) [(8,6),(11,8),(12,9)] R),((f63.stp (T3 S70 S76 S79) R R).map (ren [(8,6),(11,8),(12,9)]) R R),Ow.nil,(((f68.mx (bI _) m71 R (R:9+2=11)).stp (S76.tr S79) R R).map (ren [(8,6),(11,8),(12,9)]) R R),(f80.map (ren [(8,6),(11,8),(12,9)]) R R)⟩<|KM R⟩⟩⟩
 refine Jg1 (κ:=K59) 9 R R R R R X108 R λb6 w83 K84 S85 f86=>⟨((S60.tr S85).cl R),Jp1<|Jq1 (fuel:=0) [(7,1),(8,2),(10,1)] (by kernel_rfl) (by kernel_rfl) R<|Jh R R R C56 (dx (κ:=Mk K84) (Ji3<|f12.stp (T5 S17 S36 S52 S60 S85) R R) hx26) ?_⟩
 rintro _ w88 ⟨k89,ad,ac,rfl,e90,f91⟩
 obtain⟨K92,S93,m94⟩:=Ji e90 10 R
 exact⟨((T3 S60 S85 S93).cl R),Jf R (bJ (parts:=[(0,.tmp 23),(1,.tmp 26)]) (cells:=[.slice aa x22.length ab,.slice none 0 0,.slice ad x26.length ac]) R R (by kernel_rfl))<|Jj1 (κ:=K92) 9 (vc:=[.slice aa x22.length ab,.slice none 0 0,.slice ad x26.length ac]) R R R R R R R Z108 R R (f86.stp S93 R R) R λw98 S99 f100=>⟨((T4 S60 S85 S93 S99).cl R),Jp1<|Jr1 [] (by kernel_rfl) (by kernel_rfl) R<|Jo<|Jw1 _ ⟨(λb=>ren [(8,6),(12,8)]<|K92 b),b6,aa,ab,none,0,ad,ac,R,(Jy2 ((T5 S52 S60 S85 S93 S99).wk R) [(8,6),(12,8)] R),((f63.stp (T3 S85 S93 S99) R R).map (ren [(8,6),(12,8)]) R R),Ow.nil,(((f91.mx (bI _) m94 R (R:10+2=12)).stp S99 R R).map (ren [(8,6),(12,8)]) R R),(f100.map (ren [(8,6),(12,8)]) R R)⟩<|KM R⟩⟩
 refine Jg1 (κ:=K35) 6 R R R R R X108 R λb6 w103 K104 S105 f106=>⟨(S105.cl R),Jp1<|Jq1 (fuel:=0) [(3,1),(4,2),(7,1),(8,2),(10,1)] (by kernel_rfl) (by kernel_rfl) R<|Jh R R R C56 (dx (κ:=Mk K104) (Ji3<|f10.stp (T4 S17 S36 S52 S105) R R) hx22) ?_⟩
 rintro _ w108 ⟨k109,aa,ab,rfl,e110,f111⟩
 obtain⟨K112,S113,m114⟩:=Ji e110 7 R
 refine⟨((S105.tr S113).cl R),Jf R (bJ (parts:=[(0,.tmp 22)]) (cells:=[.slice aa x22.length ab,.slice none 0 0]) R R (by kernel_rfl))<|Jh R R R C56 (dx (κ:=Mk K112) (Ji3<|f12.stp (T5 S17 S36 S52 S105 S113) R R) hx26) ?_⟩
 rintro _ w118 ⟨k119,ad,ac,rfl,e120,f121⟩
 obtain⟨K122,S123,m124⟩:=Ji e120 10 R
 have S001:=(T3 S105 S113 S123)
 exact⟨(S001.cl R),Jf R (bJ (parts:=[(0,.tmp 23),(1,.tmp 26)]) (cells:=[.slice aa x22.length ab,.slice none 0 0,.slice ad x26.length ac]) R R (by kernel_rfl))<|Jj1 (κ:=K122) 6 (vc:=[.slice aa x22.length ab,.slice none 0 0,.slice ad x26.length ac]) R R R R R R R Z108 R R (f106.stp (S113.tr S123) R R) R λw128 S129 f130=>⟨((S001.tr S129).cl R),Jp1<|Jr1 [] (by kernel_rfl) (by kernel_rfl) R<|Jo<|Jw1 _ ⟨(λb=>ren [(9,6),(12,8),(6,9)]<|K122 b),b6,aa,ab,none,0,ad,ac,R,(Jy2 ((T5 S52 S105 S113 S123 S129).wk R) [(9,6),(12,8),(6,9)] R),(((f111.mx (bI _) m114 R (R:7+2=9)).stp (S123.tr S129) R R).map (ren [(9,6),(12,8),(6,9)]) R R),Ow.nil,(((f121.mx (bI _) m124 R (R:10+2=12)).stp S129 R R).map (ren [(9,6),(12,8),(6,9)]) R R),(f130.map (ren [(9,6),(12,8),(6,9)]) R R)⟩<|KM R⟩⟩
 rintro _ w43 ⟨K44,b6,ae,ah,ap,ao,af,ai,rfl,S45,f47,f48,f49,f50⟩
 refine Jp<|Jq<|Je3 R ?_
 have hN133:(p1.length:Int)<=9223372036854775807:=g1.len_le
 refine Ob h λq2 hq135 hK134=>?_
 clear h
 refine Jx1 (λL w'=>∃κ',∃s3:(List<|List Int),∃aj ak,L=[(4,.pointer (some ⟨b4,0,none⟩)),(6,.pointer (some ⟨b6,0,none⟩))]/\Stp [7,9,12,13] K44 w43 κ' w'/\Oc (Ep.own E6 2) 29 κ' w' 7 aj ak s3/\Bc κ' w' 9 b6 108 [.slice ae (((⟨(⟨x22,([]:List (List Int))⟩:Arena),x26⟩:Parity).Arena).Owner).length ah,.slice aj s3.length ak,.slice af ((⟨(⟨x22,([]:List (List Int))⟩:Arena),x26⟩:Parity).Prio).length ai]/\q2=xe s3) ?_ ?_
 refine Jv<|Jy1 (λk L w'=>∃κ' v7,∃s1:(List<|List Int),∃ax an,L=[(1,.slice a1 p1.length u1),(2,.pointer (some ⟨b2,0,none⟩)),(4,.pointer (some ⟨b4,0,none⟩)),(6,.pointer (some ⟨b6,0,none⟩)),(7,vi v7)]/\Stp [7,9,12,13] K44 w43 κ' w'/\Oc (Ep.own E6 2) 29 κ' w' 7 ax an s1/\Bc κ' w' 9 b6 108 [.slice ae (((⟨(⟨x22,([]:List (List Int))⟩:Arena),x26⟩:Parity).Arena).Owner).length ah,.slice ax s1.length an,.slice af ((⟨(⟨x22,([]:List (List Int))⟩:Arena),x26⟩:Parity).Prio).length ai]/\0<=v7/\xh ((p1.length:Int)-v7)=k/\cntM (iK p0 p1) k v7 s1=some q2) ⟨_,_,⟨K44,0,(((⟨(⟨x22,([]:List (List Int))⟩:Arena),x26⟩:Parity).Arena).Next:(List<|List Int)),ap,ao,R,Jj3,f48,f50,(by decide),(by simp),hq135⟩,(KM R)⟩ ?_
 rintro k _ w141 ⟨K142,v7,s1,ax,an,rfl,S143,f144,f145,hj133,hJ133,h⟩
 rcases k with _ | k
 have hk146:=h;obtain⟨o133,h⟩:=bP (xe (Sum.inl s1):(Parity×Bool)⊕(((List (List Int)))⊕((List (List Int)))))
 have hc133:decide (v7<(p1.length:Int))=false:=Jo2 (by omega)
 refine Jq<|Jg3 [2,2,2,2] 2 R<|Jn3 R U29 R R<|Jb 1 R<|Jw2 R hc133<|Jc1<|Jt<|Jt ?_
 cases h
 have h:=hk146
 refine Jb1 ?_
 cases h
 exact Jw1 _ ⟨K142,s1,ax,an,R,S143.wk R,f144,f145,R⟩<|KM R
 obtain⟨o133,h,hk146⟩:=BI h;unfold iK at h
 have hc133:decide (v7<(p1.length:Int))=true:=Jn2 (by omega)
 refine Jq<|Jg3 [2,2,2,2] 2 R<|Jn3 R U29 R R<|Jb 1 R<|Jv2 R hc133<|Js<|Jp<|Jq<|Jv<|Je [2,2,1,2,2,1,1,2] R<|Jd3 R U108 R Z104<|Jd3 R U104 R Z26<|Jb3 R I26 ((f9.stp (T4 S17 S36 S45 S143) R R).ld 1 R R)<|Jn 1 R<|Ob h λx38 hx38 h=>Jc3 R f11 hx38 U26 Z29 ?_
 obtain⟨ax38,ux38,f149,hl150⟩:=(f11.stp (T4 S17 S36 S45 S143) R R).gSl hx38
 refine Jb3 R I29 hl150<|Ob h λx40 hx40 h=>Jh R R R C56 (dx (κ:=Mk K142) (Ji3 f149) hx40) ?_
 rintro _ w151 ⟨k152,aC,aB,rfl,e153,f154⟩
 obtain⟨K155,S156,m157⟩:=Ji e153 10 R
 refine Tv<|Jb 1 R<|Jq<|Jg3 [2,2,2,1,2] 2 R<|Ob h λx43 hx43 h=>Jc3 R g1 hx43 U29 Z2 ?_
 have f160:=g1.stp (T7 S3 S7 S17 S36 S45 S143 S156) R R
 refine Jb3 R I2 (f160.gInt hx43)<|Jb 1 R<|Ob h λq4 h hK161=>Jx1 (λL w'=>∃κ' al am,L=[(1,.slice a1 p1.length u1),(2,.pointer (some ⟨b2,0,none⟩)),(4,.pointer (some ⟨b4,0,none⟩)),(6,.pointer (some ⟨b6,0,none⟩)),(7,vi v7),(8,.slice al q4.length am)]/\Stp [13] K155 w151 κ' w'/\Oc E6 2 κ' w' 12 al am q4) ?_ ?_
 revert h
 cases ht166:decide (0<=x43)
 refine JF λh=>Jy R<|Js ?_
 cases h
 exact Jw1 _ ⟨K155,aC,aB,R,Jj3,(f154.mx (bI _) m157 R (R:10+2=12))⟩<|KM R
 refine JT λh=>Jx R<|Jh3 [2,2,2,1,1,2] 2 R<|Ob h λx48 hx48 h=>Jc3 R f160 hx48 U29 Z2<|Jb3 R I2 (f160.gInt hx48)<|Jn1 (κ:=K155) (E:=E6) 13 [] (parts:=[(0,.tmp 49)]) (cells:=[vi x48]) (xs:=([x48]:List Int)) R R R R R R Y29 bG R R R R R R R R R R ⟨[vi x48],[],Zl K155 w151 [],Zl K155 w151 [],R,Zl.sp (l1:=[]) (l2:=[]) R,Zl.sr (l1:=[]) (l2:=[]),R,R⟩ λaE aD w167 K168 S169 f170=>Tv<|Jc 1 R ?_
 cases h
 exact Jw1 _ ⟨(λb=>ren [(13,12)]<|K168 b),aE,aD,R,(Jy2 (S169.wk R) [(13,12)] R),(f170.map (ren [(13,12)]) R R)⟩<|KM R
 rintro _ w162 ⟨K163,al,am,rfl,S164,f165⟩
 have h:=hK161
 refine Jp<|Ja [2,2,1,2,1,1,2,2,1] R<|Jd3 R U108 R Z104<|Jd3 R U104 R Z26 ?_
 have f171:=f145.stp (S156.tr S164) R R
 refine Jb3 R I26 (f171.ld 1 R R)<|Jn 1 R<|Jn1 (κ:=K163) (E:=(Ep.own E6 2)) 13 [12] (parts:=[(0,.tmp 54)]) (cells:=[.slice al q4.length am]) (xs:=([q4]:List (List Int))) R R R R R R Y26 bN R R R R R R R R R R ⟨[.slice al q4.length am],[],Zl K163 w162 [12],Zl K163 w162 [],R,Zl.sp (l1:=[12]) (l2:=[]) R,Zl.sr (l1:=[12]) (l2:=[]),⟨_,_,R,f165⟩,R⟩ λaG aF w172 K173 S174 f175=>Tv<|Ob h λx56 hx56 h=>Jm1 (κ:=K173) (E:=(Ep.own E6 2)) 7 [13] R R R R R R R R R Y26 bN R R R R (f144.stp (T3 S156 S164 S174) R R) f175.src (dd R) hx56 R λaA az w177 K178 S179 f180=>Tv<|Jd3 R U108 R Z104<|Jd3 R U104 R Z26<|Ji1 (κ:=K178) 9 (off:=1) (vc:=[.slice aA x56.length az]) (cs':=[.slice ae (((⟨(⟨x22,([]:List (List Int))⟩:Arena),x26⟩:Parity).Arena).Owner).length ah,.slice aA x56.length az,.slice af ((⟨(⟨x22,([]:List (List Int))⟩:Arena),x26⟩:Parity).Prio).length ai]) R R R R R R R Z26 R R (f171.stp (S174.tr S179) R R) R R λw182 S183 f184=>Tv<|Jo<|Jz<|Jp<|Jf3 R ?_
 have hw133:t0 .i64 (v7+1)=v7+1:=wr1 hj133 (Jm2 hc133) hN133
 rw[hw133]
 have hc133:=Jm2 hc133
 cases h
 exact Jz1 λa ha=>⟨k,_,Ja3 _,⟨K178,v7+1,x56,aA,az,R,(T6 S143 S156 S164 S174 S179 S183).wk R,(f180.stp S183 R R),f184,by omega,by omega,hk146⟩,(ha.mm R)⟩
 rintro _ w136 ⟨K137,s3,aj,ak,rfl,S138,f139,f140,rfl⟩
 have h:=yI hK134
 refine Jp<|Je [1,1,2] R<|Jl tv R R R R (Jd2 (cs:=[.slice ae (((⟨(⟨x22,([]:List (List Int))⟩:Arena),x26⟩:Parity).Arena).Owner).length ah,.slice aj s3.length ak,.slice af ((⟨(⟨x22,([]:List (List Int))⟩:Arena),x26⟩:Parity).Prio).length ai]) I108 Z108 R R R<|haE f140.cells)<|Jj1 (κ:=K137) 3 (vc:=[.slice ae (((⟨(⟨x22,([]:List (List Int))⟩:Arena),x26⟩:Parity).Arena).Owner).length ah,.slice aj s3.length ak,.slice af ((⟨(⟨x22,([]:List (List Int))⟩:Arena),x26⟩:Parity).Prio).length ai]) R R R R R R R Z108 R R (f8.stp (T4 S17 S36 S45 S138) R R) R λw187 S188 f189=>Tv<|Jb 1 R<|Ju<|Ja2 (l:=[.cell 4 108,.tmp 5]) V211 (bL R f189 I108 Z108 R<|Jp2 R R) R ?_
 cases h
 exact⟨(λb=>ren [(6,2),(7,3),(8,4)]<|K137 b),ae,ah,aj,ak,af,ai,R,((hE.stp (T7 S3 S7 S17 S36 S45 S138 S188) R R).map (ren [(6,2),(7,3),(8,4)]) R R),((f47.stp (S138.tr S188) R R).map (ren [(6,2),(7,3),(8,4)]) R R),((f139.stp S188 R R).map (ren [(6,2),(7,3),(8,4)]) R R),((f49.stp (S138.tr S188) R R).map (ren [(6,2),(7,3),(8,4)]) R R)⟩
 refine JT λh=>Jx R<|Je [2,1,2] R<|Jf R (bJ (parts:=[]) (cells:=[.slice none 0 0,.slice none 0 0,.slice none 0 0]) R R (by kernel_rfl))<|Jj1 (κ:=K35) 3 (vc:=[.slice none 0 0,.slice none 0 0,.slice none 0 0]) R R R R R R R Z108 R R (f8.stp (S17.tr S36) R R) R λw39 S40 f41=>Tv<|Jb 1 R<|Ju<|Jw<|Ja2 (l:=[.cell 4 108,.tmp 5]) V211 (bL R f41 I108 Z108 R<|Jp2 R R) R ?_
 cases h
 exact⟨K35,none,0,none,0,none,0,R,(hE.stp (T5 S3 S7 S17 S36 S40) R R),Ow.nil,Ow.nil,Ow.nil⟩
theorem sB {ac ak aj ah ae af ai ad ab aa}{p0:l7Game}{a1 u1}{p1:(List Bool)}{p2:Int}(g0_0:Rd (Rp.int .i64) κ w 0 ac ak p0.owner) (g0_1:Rd (Rp.int .i64) κ w 0 aj ah p0.prio) (g0_2:Rd (Rp.sl (Rp.int .i64)) κ w 0 ae af p0.next) (g0_3:Rd (Rp.sl (Rp.int .i64)) κ w 0 ai ad p0.prev) (g0_4:Oc E6 2 κ w 2 ab aa p0.pick) (g1:Rd Rp.bool κ w 0 a1 u1 p1){r:Int×(List Int)}(h:lT p0 p1 p2=some r):Ret Tryz.prog 177 [.agg #[.slice ac p0.owner.length ak,.slice aj p0.prio.length ah,.slice ae p0.next.length af,.slice ai p0.prev.length ad,.slice ab p0.pick.length aa],.slice a1 p1.length u1,vi p2] w (λv w'=>∃(κ':Col),v=vi r.1/\Ent κ w κ' w'/\Oc E6 2 κ' w' 2 ab aa r.2/\p0.pick.length=r.2.length):=by
 unfold lT at h
 refine Jk3 κ F177 R N177 R λhE=>Je [1,2] R<|Jf1 (κ:=κ) 3 R R R R R R R λb3 w1 K2 S3 f4=>Tv<|Jb 1 R<|Jq<|Je3 R<|Ob h λq2 hq7 hK6=>?_
 clear h
 refine Jx1 (λL w'=>∃κ',∃s3:Int×(List Int),L=[]/\Stp [2] K2 w1 κ' w'/\Oc E6 2 κ' w' 2 ab aa s3.2/\p0.pick.length=s3.2.length/\q2=xe s3) ?_ ?_
 refine Jv<|Jy1 (λk L w'=>∃κ',∃s1:Int×(List Int),L=[(1,.slice a1 p1.length u1),(2,vi p2),(3,.pointer (some ⟨b3,0,none⟩)),(7,vi s1.1)]/\Stp [2] K2 w1 κ' w'/\Oc E6 2 κ' w' 2 ab aa s1.2/\p0.pick.length=s1.2.length/\bZ (je p0 p1 p2) k s1=some q2) ⟨_,_,⟨K2,((0:Int),p0.pick),R,Jj3,(g0_4.stp S3 R R),R,hq7⟩,(KM R)⟩ ?_
 rintro k _ w13 ⟨K14,s1,rfl,S15,f16,hn17,h⟩
 rcases k with _ | k
 cases h
 obtain⟨o5,h,hk19⟩:=BI h;unfold je at h
 refine Jq<|Jg3 [2,2,1,2,2,1,2,2] 1 R<|Jd3 R U191 R Z26 ?_
 have f20:=f4.stp S15 R R
 refine Jb3 R I26 (f20.ld 2 R R)<|Jn 1 R<|Ob h λx13 hx13 h=>Jc3 R g0_2 hx13 U26 Z29 ?_
 have f21:=g0_2.stp (S3.tr S15) R R
 obtain⟨ax13,ux13,f22,hl23⟩:=f21.gSl hx13
 refine Jb3 R I29 hl23<|Jn3 R U29 R R<|Jb 1 R ?_
 revert h
 cases ht24:decide (s1.1<(x13.length:Int))
 refine JF λh=>Jy R<|Jc1<|Jt<|Jt ?_
 cases h
 have h:=hk19
 refine Jb1 ?_
 cases h
 exact Jw1 _ ⟨K14,(s1.1,s1.2),R,S15.wk R,f16,hn17,R⟩ KN
 refine JT λh=>Jx R<|Js<|Jp<|Jq<|Jv<|Je [2,1,2,2,1,2,2,1,2] R<|Jd3 R U191 R Z26<|Jb3 R I26 (f20.ld 2 R R)<|Jn 1 R<|Ob h λx22 hx22 h=>Jc3 R f21 hx22 U26 Z29 ?_
 obtain⟨ax22,ux22,f25,hl26⟩:=f21.gSl hx22
 refine Jb3 R I29 hl26<|Jn 1 R<|Ob h λx25 hx25 h=>Jc3 R f25 hx25 U29 Z2<|Jb3 R I2 (f25.gInt hx25)<|Jb 1 R<|Jq<|Jg3 [2,2,2,1,2] 2 R<|Ob h λx29 hx29 h=>Jc3 R g1 hx29 U193 Z4 ?_
 have f27:=g1.stp (S3.tr S15) R R
 refine Jb3 R I4 (f27.gBool hx29)<|Jb 1 R ?_
 revert h
 cases ht28:(!x29)
 refine JF λh=>Jy R<|Js<|Jp<|Je [2,1,2,2,2,1] R<|Jd3 R U191 R Z29<|Jb3 R I29 (f20.ld 4 R R)<|Jn 2 R<|Ob h λx36 hx36 h=>Jf R (Jf2 f16.rdc hx36 U29 Z2 R R hn17 R)<|Ob h λy225 hy225 h=>Jk1 (κ:=K14) (E:=E6) 2 [] R R R R R R R R Z2 R R R R f16 hy225 λw29 K30 S31 f32=>Tv<|?_
 have hn33:p0.pick.length=y225.length:=hn17.trans (Jt2 hy225).2.2.2.symm
 refine Jd<|Jq<|Js1 (κ:=K30) [0,3] none [(1,2),(2,2),(4,2),(0,0),(3,0),(5,2),(6,0),(7,1)] [] (by kernel_rfl) (by kernel_rfl) λw35 S34=>Jn 1 R<|Jd3 R U191 R Z29<|Jn 1 R ?_
 have f36:=f20.stp (S31.tr S34) R R
 refine Jg R (Jd2 (cs:=[.slice ac p0.owner.length ak,.slice aj p0.prio.length ah,.slice ae p0.next.length af,.slice ai p0.prev.length ad,.slice ab p0.pick.length aa]) I191 Z191 R R R<|haC f36.cells R)<|Jg R (Jc2 I29 R R<|hvC (f36.ld 0 R R) R)<|Ob h λx42 hx42 h=>Jc3 R g0_0 hx42 U29 Z2 ?_
 have f37:=g0_0.stp (T4 S3 S15 S31 S34) R R
 refine Jg R (Jc2 I2 R R<|hvC (f37.gInt hx42) R)<|Ob h λx44 hx44 h=>?_
 have f41:=f32.stp S34 R R
 have S001:=(T4 S3 S15 S31 S34)
 refine Jh R R R C215 (Ret.cast (by simp only[hn33,List.cons_append,List.nil_append])<|rm (κ:=Mk K30) (p0:=(⟨p0.owner,p0.prio,p0.next,p0.prev,y225⟩:l7Game)) (Ji3 f37) (Ji3<|g0_1.stp S001 R R) (Ji3<|f21.stp (S31.tr S34) R R) (Ji3<|g0_3.stp S001 R R) (Ji3 f41.rdc) (Ji3<|f27.stp (S31.tr S34) R R) hx44) ?_
 rintro _ w43 ⟨k44,rfl,e45⟩
 obtain⟨K46,S47,m48⟩:=Ji e45 4 R
 refine⟨(S47.cl R),Jt1<|Jd ?_⟩
 revert h
 cases ht50:x44
 refine JF λh=>Jy R<|Js<|Jz<|Jp<|Jf3 R ?_
 cases h
 exact Jz1 λa ha=>⟨k,_,Ja3 _,⟨K46,(((IntKind.i64.wrap<|s1.1+1):Int),y225),R,(T4 S15 S31 S34 S47).wk R,(f41.stp S47 R R),hn33,hk19⟩,(ha.mm R)⟩
 refine JT λh=>Jx R<|Je3 R<|Ju<|Ja1<|Jw<|Jw ?_
 cases h
 obtain rfl:=Option.some.inj hk19
 have h:=yL hK6
 refine Ja1<|Jq2<|Jw<|Ja2 (l:=[.tmp 6]) V177 (Jp2 R R) R ?_
 cases h
 exact⟨K46,R,(hE.stp (T5 S3 S15 S31 S34 S47) R R),(f41.stp S47 R R),hn33⟩
 refine JT λh=>Jx R<|Jc1<|Jt<|Jb1<|Jp<|Jf3 R ?_
 cases h
 exact Jz1 λa ha=>⟨k,_,Ja3 _,⟨K14,(((IntKind.i64.wrap<|s1.1+1):Int),s1.2),R,S15.wk R,f16,hn17,hk19⟩,(ha.mm R)⟩
 rintro _ w8 ⟨K9,s3,rfl,S10,f11,hn12,rfl⟩
 have h:=yI hK6
 refine Jp<|Je3 R<|Ju<|Ja2 (l:=[.tmp 6]) V177 (Jp2 R R) R ?_
 cases h
 exact⟨K9,R,(hE.stp (S3.tr S10) R R),f11,hn12⟩
theorem ox {p0:Sig}{a1 u1}{p1:(List Clause)}(g1:Rd Clause.rp κ w 0 a1 u1 p1){r:Bool}(h:gK p0 p1=some r):Ret Tryz.prog 129 [.agg #[vi p0.In,vi p0.Out],.slice a1 p1.length u1] w (Pvb κ w r):=by
 unfold gK at h
 refine Jk3 κ F129 R N129 R λhE=>Je [1,2] R<|Jf1 (κ:=κ) 2 R R R R R R R λb2 w1 K2 S3 f4=>Tv<|Jb 1 R<|Jg3 [2,2,2,2,2,2,1,2,2,2] 1 R<|Jn3 R U49 R R<|Jn 2 R<|Ob h λp13 h hK5=>Ju1 [(4,2),(5,2),(6,1),(7,2),(8,2)] [(9,2)] (λL w'=>L=[(4,.bool false),(13,.bool p13)]/\∃κ',Stp [] K2 w1 κ' w') tv ?_ ?_
 revert h
 cases ht6:decide ((p1.length:Int)<=3)
 refine JF λh=>Jn 2 R<|Jd1 R R R R<|Jn 2 R ?_
 cases h
 exact Jv1 _ tv ⟨R,_,Jj3⟩<|KM R
 refine JT λh=>Jn 1 R<|Jf R (gD (first:=[]) (captured:=[.tmp 2]) R R R ⟨_,R⟩)<|Ob h λx11 hx11 h=>Jh R R R C178 (cW (κ:=Mk K2) (c1_0:=p0) (Ji3<|g1.stp S3 R R) (f4.map (mp [] 0) R R) hx11) ?_
 rintro _ w8 ⟨k9,rfl,e10⟩
 obtain⟨K11,S12,m13⟩:=Ji e10 3 R
 refine Tv<|Jn 2 R ?_
 cases h
 exact Jv1 _ tv ⟨R,_,S12.wk R⟩<|KM R
 rintro _ w15 _ ⟨rfl,K16,S17⟩
 have h:=hK5
 refine Jb 1 R<|Ju<|Ja2 (l:=[.tmp 4]) V129 (Jp2 R R) R ?_
 cases h
 exact⟨K16,R,(hE.stp (S3.tr S17) R R)⟩
theorem pV {ai ak ah aj}{p0:Arena}{a1 u1}{p1:(List Pair)}{p2:Int}(g0_0:Rd (Rp.int .i64) κ w 0 ai ak p0.Owner) (g0_1:Rd (Rp.sl (Rp.int .i64)) κ w 0 ah aj p0.Next) (g1:Rd Pair.rp κ w 0 a1 u1 p1){r:Parity×(List Place)×Bool}(h:eY p0 p1 p2=some r):Ret Tryz.prog 79 [.agg #[.slice ai p0.Owner.length ak,.slice ah p0.Next.length aj],.slice a1 p1.length u1,vi p2] w (λv w'=>∃(κ':Col) (ra0:Option Addr) (ru0:Nat) (ra1:Option Addr) (ru1:Nat) (ra2:Option Addr) (ru2:Nat) (ra3:Option Addr) (ru3:Nat),v= .tuple #[.agg #[.slice ra0 r.1.Arena.Owner.length ru0,.slice ra1 r.1.Arena.Next.length ru1,.slice ra2 r.1.Prio.length ru2],.slice ra3 r.2.1.length ru3,.bool r.2.2]/\Ent κ w κ' w'/\Oc E6 2 κ' w' 2 ra0 ru0 r.1.Arena.Owner/\Oc (Ep.fz (Rp.sl (Rp.int .i64))) 29 κ' w' 3 ra1 ru1 r.1.Arena.Next/\Oc E6 2 κ' w' 4 ra2 ru2 r.1.Prio/\Oc (Ep.fz Place.rp) 116 κ' w' 5 ra3 ru3 r.2.1):=by
 unfold eY at h
 refine Jk3 κ F79 R N79 R λhE=>Je [1,1,1,2,2] R<|Jf1 (κ:=κ) 2 R R R R R R R λb3 w1 K2 S3 f4=>Tv<|Jf1 (κ:=K2) 3 R R R R R R R λb4 w5 K6 S7 f8=>Tv<|Jg1 (κ:=K6) 4 R R R R R X108 R λb6 w9 K10 S11 f12=>Tv<|Jb 2 R<|Jg3 [2,2,1,1] 1 R<|Jf R (bJ (parts:=[(0,.tmp 11)]) (cells:=[vi p2,.slice none 0 0]) R R (by kernel_rfl))<|Jg1 (κ:=K10) 5 R R R R R X116 R λb9 w13 K14 S15 f16=>Tv<|Jj1 (κ:=K14) 5 (vc:=[vi p2,.slice none 0 0]) R R R R R R R Z116 R R f16 R λw17 S18 f19=>Tv<|Jd<|Jq<|Je [1,2,2] R ?_
 have f20:=f8.stp (T3 S11 S15 S18) R R
 refine Jb3 R I98 (f20.ld 0 R R)<|Jn3 R U98 R R<|Jb 1 R ?_
 have hN21:(p1.length:Int)<=9223372036854775807:=g1.len_le
 refine Ob h λq2 hq23 hK22=>?_
 clear h
 refine Jx1 (λL w'=>∃κ',∃s3:(List Int),∃aa ac,L=[(3,.pointer (some ⟨b3,0,none⟩)),(4,.pointer (some ⟨b4,0,none⟩)),(6,.pointer (some ⟨b6,0,none⟩)),(9,.pointer (some ⟨b9,0,none⟩))]/\Stp [5,6] K14 w17 κ' w'/\Oc E6 2 κ' w' 6 aa ac s3/\Bc κ' w' 5 b9 116 [vi p2,.slice aa s3.length ac]/\q2=xe s3) ?_ ?_
 refine Jv<|Jy1 (λk L w'=>∃κ' v15,∃s1:(List Int),∃ad ab,L=[(3,.pointer (some ⟨b3,0,none⟩)),(4,.pointer (some ⟨b4,0,none⟩)),(6,.pointer (some ⟨b6,0,none⟩)),(9,.pointer (some ⟨b9,0,none⟩)),(14,vi (p1.length:Int)),(15,vi v15)]/\Stp [5,6] K14 w17 κ' w'/\Oc E6 2 κ' w' 6 ad ab s1/\Bc κ' w' 5 b9 116 [vi p2,.slice ad s1.length ab]/\0<=v15/\xh ((p1.length:Int)-v15)=k/\cntM iJ k v15 s1=some q2) ⟨_,_,⟨K14,0,(([]:List Int):(List Int)),none,0,R,Jj3,Ow.nil,f19,(by decide),(by simp),hq23⟩,(KM R)⟩ ?_
 rintro k _ w29 ⟨K30,v15,s1,ad,ab,rfl,S31,f32,f33,hj21,hJ21,h⟩
 rcases k with _ | k
 have hk34:=h;obtain⟨o21,h⟩:=bP (xe (Sum.inl s1):(Parity×(List Place)×Bool)⊕(((List Int))⊕((List Int))))
 have hc21:decide (v15<(p1.length:Int))=false:=Jo2 (by omega)
 refine Je3 R<|Jq<|Jw2 R hc21<|Jc1<|Jt<|Jt ?_
 cases h
 have h:=hk34
 refine Jb1 ?_
 cases h
 exact Jw1 _ ⟨K30,s1,ad,ab,R,S31.wk R,f32,f33,R⟩<|KM R
 obtain⟨o21,h,hk34⟩:=BI h;unfold iJ at h
 have hc21:decide (v15<(p1.length:Int))=true:=Jn2 (by omega)
 refine Je3 R<|Jq<|Jv2 R hc21<|Js<|Jp<|Jq<|Jv<|Je3 R<|Ja [2,1,2,1,1,2,1] R<|Jd3 R U116 R Z29<|Jb3 R I29 (f33.ld 1 R R)<|Jn 1 R<|Jn1 (κ:=K30) (E:=E6) 7 [] (parts:=[(0,.tmp 20)]) (cells:=[vi v15]) (xs:=([v15]:List Int)) R R R R R R Y29 bG R R R R R R R R R R ⟨[vi v15],[],Zl K30 w29 [],Zl K30 w29 [],R,Zl.sp (l1:=[]) (l2:=[]) R,Zl.sr (l1:=[]) (l2:=[]),R,R⟩ λav aw w35 K36 S37 f38=>Tv<|Ob h λx22 hx22 h=>Jm1 (κ:=K36) (E:=E6) 6 [] R R R R R R R R R Y29 bG R R R R (f32.stp S37 R R) (Sl.srcP (bT _) f38.rdc) bK hx22 R λaf ae w40 K41 S42 f43=>Tv<|Jd3 R U116 R Z29<|Ji1 (κ:=K41) 5 (off:=1) (vc:=[.slice af x22.length ae]) (cs':=[vi p2,.slice af x22.length ae]) R R R R R R R Z29 R R (f33.stp (S37.tr S42) R R) R R λw45 S46 f47=>Tv<|Jo<|Jz<|Jp<|Jf3 R ?_
 have hw21:t0 .i64 (v15+1)=v15+1:=wr1 hj21 (Jm2 hc21) hN21
 rw[hw21]
 have hc21:=Jm2 hc21
 cases h
 exact Jz1 λa ha=>⟨k,_,Ja3 _,⟨K41,v15+1,x22,af,ae,R,(T4 S31 S37 S42 S46).wk R,(f43.stp S46 R R),f47,by omega,by omega,hk34⟩,(ha.mm R)⟩
 rintro _ w24 ⟨K25,s3,aa,ac,rfl,S26,f27,f28,rfl⟩
 have h:=yI hK22
 refine Jp<|Je [1,1,2,2,1,2,2,2,1,2,2] R<|Jl tv R R R R (Jd2 (cs:=[.slice ai p0.Owner.length ak,.slice ah p0.Next.length aj]) I104 Z104 R R R<|haE (f4.stp (T5 S7 S11 S15 S18 S26) R R).cells)<|Jl tv R R R R (Jd2 (cs:=[vi p2,.slice aa s3.length ac]) I116 Z116 R R R<|haE f28.cells)<|Jf R (gD (first:=[]) (captured:=[.tmp 4]) R R R ⟨_,R⟩)<|Jf R (gD (first:=[]) (captured:=[.tmp 4]) R R R ⟨_,R⟩) ?_
 obtain⟨K50,S51,z52⟩:=ea K25 w24 6
 obtain⟨K55,S56,z57⟩:=ea K50 w24 3
 have S001:=(T8 S3 S7 S11 S15 S18 S26 S51 S56)
 refine Ob h λx29 hx29 h=>Jh R R R C136 (d8 (κ:=λb=>mp [] 1<|K55 b) (p0:=p0) (p1:=(⟨p2,s3⟩:Place)) (Jl2 (g0_0.stp S001 R R) (mp [] 1) R R) (Jl2 (g0_1.stp S001 R R) (mp [] 1) R R) (Jl2 ((Sl.st z52 f27.rdc).stp S56 R R) (mp [] 1) R R) (Jl2 (g1.stp S001 R R) (mp [] 1) R R) ((Bc.fzz z57<|f20.stp (S26.tr S51) R R).map (mp [] 1) R R) hx29) ?_
 rintro _ w63 ⟨k64,ao,ap,am,al,aq,an,ar,au,rfl,e65,f66,f67,f68,f69⟩
 obtain⟨K70,S71,m72,z73⟩:=Jj e65 7 R
 refine Tv<|Jn 3 R<|Jj1 (κ:=K70) 4 (vc:=[.slice ao x29.1.Arena.Owner.length ap,.slice am x29.1.Arena.Next.length al,.slice aq x29.1.Prio.length an]) R R R R R R R Z108 R R (f12.stp (T6 S15 S18 S26 S51 S56 S71) R R) R λw79 S80 f81=>Tv<|Jb 2 R<|Ju<|Ja2 (l:=[.cell 6 108,.tmp 7,.tmp 8]) V79 (bL R f81 I108 Z108 R<|Jp2 R<|Jp2 R R) R ?_
 cases h
 exact⟨(λb=>ren [(9,2),(10,3),(11,4),(12,5)]<|K70 b),ao,ap,am,al,aq,an,ar,au,R,((hE.stp (T10 S3 S7 S11 S15 S18 S26 S51 S56 S71 S80) R R).map (ren [(9,2),(10,3),(11,4),(12,5)]) R R),(((f66.mx (bI _) m72 R (R:7+2=9)).stp S80 R R).map (ren [(9,2),(10,3),(11,4),(12,5)]) R R),(((f67.mxz z73 m72 R (R:7+3=10)).stp S80 R R).map (ren [(9,2),(10,3),(11,4),(12,5)]) R R),(((f68.mx (bI _) m72 R (R:7+4=11)).stp S80 R R).map (ren [(9,2),(10,3),(11,4),(12,5)]) R R),(((f69.mxz z73 m72 R (R:7+5=12)).stp S80 R R).map (ren [(9,2),(10,3),(11,4),(12,5)]) R R)⟩
theorem sk {aa ac ad ab af ae}{p0:Parity}(g0_0_0:Rd (Rp.int .i64) κ w 0 aa ac p0.Arena.Owner) (g0_0_1:Rd (Rp.sl (Rp.int .i64)) κ w 0 ad ab p0.Arena.Next) (g0_1:Rd (Rp.int .i64) κ w 0 af ae p0.Prio){r:Answer}(h:kZ p0=some r):Ret Tryz.prog 90 [.agg #[.slice aa p0.Arena.Owner.length ac,.slice ad p0.Arena.Next.length ab,.slice af p0.Prio.length ae]] w (λv w'=>∃(κ':Col) (ra0:Option Addr) (ru0:Nat) (ra1:Option Addr) (ru1:Nat),v= .agg #[.slice ra0 r.Won.length ru0,.slice ra1 r.Plan.length ru1]/\Ent κ w κ' w'/\Oc E6 2 κ' w' 2 ra0 ru0 r.Won/\Oc E6 2 κ' w' 3 ra1 ru1 r.Plan):=by
 unfold kZ at h
 refine Jk3 κ F90 R N90 R λhE=>Je [1,1] R<|Jf1 (κ:=κ) 2 R R R R R R R λb1 w1 K2 S3 f4=>Tv<|Jg1 (κ:=K2) 3 R R R R R X113 R λb2 w5 K6 S7 f8=>Tv<|Jd<|Jq<|Je [1,1,2] R ?_
 have f9:=f4.stp S7 R R
 refine Jl tv R R R R (Jd2 (cs:=[.slice aa p0.Arena.Owner.length ac,.slice ad p0.Arena.Next.length ab,.slice af p0.Prio.length ae]) I108 Z108 R R R<|haE f9.cells)<|Ob h λx4 hx4 h=>?_
 have f10:=g0_0_0.stp (S3.tr S7) R R
 have f11:=g0_0_1.stp (S3.tr S7) R R
 have f12:=g0_1.stp (S3.tr S7) R R
 refine Jh R R R C147 (pW (κ:=Mk K6) (p0:=p0) (Ji3 f10) (Ji3 f11) (Ji3 f12) hx4) ?_
 rintro _ w13 ⟨k14,rfl,e15⟩
 obtain⟨K16,S17,m18⟩:=Ji e15 4 R
 refine Tv<|Jb 1 R ?_
 revert h
 cases ht20:(!x4)
 refine JF λh=>Jy R<|Js<|Jp<|Jq<|Js1 (κ:=K16) [2] none [(1,2),(0,0),(2,0),(4,0),(3,1),(5,1),(6,1),(7,1)] [] (by kernel_rfl) (by kernel_rfl) λw27 S26=>Jd3 R U108 R Z104 ?_
 have f28:=f9.stp (S17.tr S26) R R
 refine Jg R (Jd2 (cs:=[.slice aa p0.Arena.Owner.length ac,.slice ad p0.Arena.Next.length ab,.slice af p0.Prio.length ae]) I108 Z108 R R R<|haC f28.cells R)<|Jg R (Jd2 (cs:=[.slice aa p0.Arena.Owner.length ac,.slice ad p0.Arena.Next.length ab]) I104 Z104 R R R<|haC (f28.lds 0 2 R) R)<|Jg R (Jd2 (cs:=[.slice aa p0.Arena.Owner.length ac,.slice ad p0.Arena.Next.length ab,.slice af p0.Prio.length ae]) I108 Z108 R R R<|haC f28.cells R)<|Ob h λx10 hx10 h=>?_
 have f29:=f10.stp (S17.tr S26) R R
 have f30:=f11.stp (S17.tr S26) R R
 refine Jh R R R C149 (sy (κ:=Mk K16) (p0:=p0.Arena) (Ji3 f29) (Ji3 f30) hx10) ?_
 rintro _ w31 ⟨k32,am,ao,rfl,e33,f34⟩
 obtain⟨K35,S36,m37⟩:=Ji e33 6 R
 refine⟨(S36.cl R),Ob h λx12 hx12 h=>?_⟩
 have f40:=f29.stp S36 R R
 have f41:=f30.stp S36 R R
 have f42:=f12.stp (T3 S17 S26 S36) R R
 refine Jh R R R C80 (m0 (κ:=Mk K35) (p0:=p0) (Ji3 f40) (Ji3 f41) (Ji3 f42) hx12) ?_
 rintro _ w43 ⟨k44,an,al,rfl,e45,f46⟩
 obtain⟨K47,S48,m49⟩:=Ji e45 9 R
 refine⟨((S36.tr S48).cl R),Ob h λx13 hx13 h=>Jh R R R C148 (qe (κ:=Mk K47) (p0:=p0) (Ji3<|f40.stp S48 R R) (Ji3<|f41.stp S48 R R) (Ji3<|f42.stp S48 R R) (Ji3 ((f34.mx (bI _) m37 R (R:6+2=8)).stp S48 R R).rdc) (Ji3 (f46.mx (bI _) m49 R (R:9+2=11)).rdc) hx13) ?_⟩
 rintro _ w56 ⟨k57,aj,ai,ak,ah,rfl,e58,f59,f60⟩
 obtain⟨K61,S62,m63⟩:=Ji e58 12 R
 refine⟨((T3 S36 S48 S62).cl R),Jj1 (κ:=K61) 3 (vc:=[.slice aj x13.Won.length ai,.slice ak x13.Plan.length ah]) R R R R R R R Z113 R R (f8.stp (T5 S17 S26 S36 S48 S62) R R) R λw68 S69 f70=>⟨((T4 S36 S48 S62 S69).cl R),Jt1<|Jd<|Ju<|Ja2 (l:=[.cell 2 113]) V90 (bL R f70 I113 Z113 R R) R ?_⟩⟩
 cases h
 exact⟨(λb=>ren [(14,2),(15,3)]<|K61 b),aj,ai,ak,ah,R,((hE.stp (T8 S3 S7 S17 S26 S36 S48 S62 S69) R R).map (ren [(14,2),(15,3)]) R R),(((f59.mx (bI _) m63 R (R:12+2=14)).stp S69 R R).map (ren [(14,2),(15,3)]) R R),(((f60.mx (bI _) m63 R (R:12+3=15)).stp S69 R R).map (ren [(14,2),(15,3)]) R R)⟩
 refine JT λh=>Jx R<|Je [2,1] R<|Jf R (bJ (parts:=[]) (cells:=[.slice none 0 0,.slice none 0 0]) R R (by kernel_rfl))<|Jj1 (κ:=K16) 3 (vc:=[.slice none 0 0,.slice none 0 0]) R R R R R R R Z113 R R (f8.stp S17 R R) R λw22 S23 f24=>Tv<|Jd<|Ju<|Jw<|Ja2 (l:=[.cell 2 113]) V90 (bL R f24 I113 Z113 R R) R ?_
 cases h
 exact⟨K16,none,0,none,0,R,(hE.stp (T4 S3 S7 S17 S23) R R),Ow.nil,Ow.nil⟩
theorem oZ {p0:Sig}{aj ai ak ah}{p1:Det}{p2:Int}{p3:Int}{p4:Int}(g1_0:Rd (Rp.sl (Rp.int .i64)) κ w 0 aj ai p1.Next) (g1_1:Rd Pair.rp κ w 0 ak ah p1.Pairs){r:(List Int)}(h:iT p0 p1 p2 p3 p4=some r):Ret Tryz.prog 93 [.agg #[vi p0.In,vi p0.Out],.agg #[.slice aj p1.Next.length ai,.slice ak p1.Pairs.length ah],vi p2,vi p3,vi p4] w (Pvs E6 2 κ w r):=by
 unfold iT at h
 refine Jk3 κ F93 R N93 R λhE=>Je [1,1,2] R<|Jf1 (κ:=κ) 2 R R R R R R R λb5 w1 K2 S3 f4=>Tv<|Jf1 (κ:=K2) 3 R R R R R R R λb6 w5 K6 S7 f8=>Tv<|Jb 1 R<|Jq<|Je [1,1,2,2,1,1,1,2,2,2,2,2,2,2,2,2,1,2,2,2,2,2,2,2,2,2,1,1,2,2] R ?_
 have f9:=f4.stp S7 R R
 refine Jl tv R R R R (Jd2 (cs:=[vi p0.In,vi p0.Out]) I25 Z25 R R R<|haE f9.cells)<|Ob h λx14 hx14 h=>Jh R R R C48 (pN (κ:=Mk K6) (p0:=p0) hx14) ?_
 rintro _ w10 ⟨k11,rfl,e12⟩
 obtain⟨K13,S14,m15⟩:=Ji e12 4 R
 refine Tv<|Jn 2 R<|Ob h λp21 h hK17=>Ju1 [(4,1),(5,1),(6,1),(7,2),(8,2)] [(9,2),(10,2),(11,2),(12,2),(13,2),(14,2),(15,2),(16,1),(17,2),(18,2),(19,2),(20,2),(21,2),(22,2),(23,2),(24,2),(25,2),(26,1),(27,1),(28,2),(29,2)] (λL w'=>L=[(2,vi p2),(3,vi p3),(4,vi p4),(5,.pointer (some ⟨b5,0,none⟩)),(6,.pointer (some ⟨b6,0,none⟩)),(21,.bool p21)]/\∃κ',Stp [] K13 w10 κ' w') tv ?_ ?_
 revert h
 cases ht18:(!x14)
 refine JF λh=>Jl tv R R R R (Jd2 (cs:=[vi p0.In,vi p0.Out]) I25 Z25 R R R<|haE (f9.stp S14 R R).cells)<|Jl tv R R R R (Jd2 (cs:=[.slice aj p1.Next.length ai,.slice ak p1.Pairs.length ah]) I100 Z100 R R R<|haE (f8.stp S14 R R).cells)<|Ob h λx19 hx19 h=>Jh R R R C150 (sK (κ:=Mk K13) (p0:=p0) (p1:=p1) (Ji3<|g1_0.stp (T3 S3 S7 S14) R R) (Ji3<|g1_1.stp (T3 S3 S7 S14) R R) hx19) ?_
 rintro _ w23 ⟨k24,rfl,e25⟩
 obtain⟨K26,S27,m28⟩:=Ji e25 6 R
 refine Tv<|Jn 2 R ?_
 cases h
 exact Jv1 _ tv ⟨R,_,S27.wk R⟩<|KM R
 refine JT λh=>Jd1 R R R R<|Jd1 R R R R<|Jd1 R R R R<|Jn 2 R ?_
 cases h
 exact Jv1 _ tv ⟨R,_,Jj3⟩<|KM R
 rintro _ w30 _ ⟨rfl,K31,S32⟩
 have h:=hK17
 refine Jn 1 R<|Ob h λp25 h hK33=>Ju1 [(10,2),(11,2),(12,2)] [(13,2),(14,2),(15,2),(16,1),(17,2),(18,2),(19,2),(20,2),(21,2),(22,2),(23,2),(24,2),(25,2),(26,1),(27,1),(28,2),(29,2)] (λL w'=>L=[(2,vi p2),(3,vi p3),(4,vi p4),(5,.pointer (some ⟨b5,0,none⟩)),(6,.pointer (some ⟨b6,0,none⟩)),(25,.bool p25)]/\∃κ',Stp [] K31 w30 κ' w') tv ?_ ?_
 revert h
 cases ht34:p21
 refine JF λh=>Jn 3 R ?_
 cases h
 exact Jv1 _ tv ⟨R,_,Jj3⟩<|KM R
 refine JT λh=>Jn 3 R ?_
 cases h
 exact Jv1 _ tv ⟨R,_,Jj3⟩<|KM R
 rintro _ w35 _ ⟨rfl,K36,S37⟩
 have h:=hK33
 refine Jn 1 R<|Ob h λp32 h hK38=>Ju1 [(14,2),(15,2),(16,1),(17,2),(18,2),(19,2)] [(20,2),(21,2),(22,2),(23,2),(24,2),(25,2),(26,1),(27,1),(28,2),(29,2)] (λL w'=>L=[(2,vi p2),(3,vi p3),(4,vi p4),(5,.pointer (some ⟨b5,0,none⟩)),(6,.pointer (some ⟨b6,0,none⟩)),(32,.bool p32)]/\∃κ',Stp [] K36 w35 κ' w') tv ?_ ?_
 revert h
 cases ht39:p25
 refine JF λh=>Jn 1 R<|Jd3 R U100 R Z26<|Jb3 R I26 ((f8.stp (T3 S14 S32 S37) R R).ld 0 R R)<|Jn3 R U26 R R<|Jn 2 R ?_
 cases h
 exact Jv1 _ tv ⟨R,_,Jj3⟩<|KM R
 refine JT λh=>Jn 2 R<|Jd1 R R R R<|Jn 3 R ?_
 cases h
 exact Jv1 _ tv ⟨R,_,Jj3⟩<|KM R
 rintro _ w41 _ ⟨rfl,K42,S43⟩
 have h:=hK38
 refine Jn 1 R<|Ob h λp36 h hK44=>Ju1 [(21,2),(22,2),(23,2)] [(24,2),(25,2),(26,1),(27,1),(28,2),(29,2)] (λL w'=>L=[(2,vi p2),(3,vi p3),(4,vi p4),(5,.pointer (some ⟨b5,0,none⟩)),(6,.pointer (some ⟨b6,0,none⟩)),(36,.bool p36)]/\∃κ',Stp [] K42 w41 κ' w') tv ?_ ?_
 revert h
 cases ht45:p32
 refine JF λh=>Jn 3 R ?_
 cases h
 exact Jv1 _ tv ⟨R,_,Jj3⟩<|KM R
 refine JT λh=>Jn 3 R ?_
 cases h
 exact Jv1 _ tv ⟨R,_,Jj3⟩<|KM R
 rintro _ w46 _ ⟨rfl,K47,S48⟩
 have h:=hK44
 refine Jn 1 R<|Ob h λp42 h hK49=>Ju1 [(25,2),(26,1),(27,1),(28,2),(29,2)] [] (λL w'=>L=[(2,vi p2),(3,vi p3),(4,vi p4),(5,.pointer (some ⟨b5,0,none⟩)),(6,.pointer (some ⟨b6,0,none⟩)),(42,.bool p42)]/\∃κ',Stp [] K47 w46 κ' w') tv ?_ ?_
 revert h
 cases ht50:p36
 refine JF λh=>Jn 1 R<|Jl tv R R R R (Jd2 (cs:=[vi p0.In,vi p0.Out]) I25 Z25 R R R<|haE (f9.stp (T5 S14 S32 S37 S43 S48) R R).cells)<|Ob h λx40 hx40 h=>Jh R R R C52 (fN (κ:=Mk K47) (p0:=p0) hx40) ?_
 rintro _ w52 ⟨k53,rfl,e54⟩
 obtain⟨K55,S56,m57⟩:=Ji e54 6 R
 refine Tv<|Jn 2 R ?_
 cases h
 exact Jv1 _ tv ⟨R,_,S56.wk R⟩<|KM R
 refine JT λh=>Jn 1 R<|Jd1 R R R R<|Jd1 R R R R<|Jn 2 R ?_
 cases h
 exact Jv1 _ tv ⟨R,_,Jj3⟩<|KM R
 rintro _ w59 _ ⟨rfl,K60,S61⟩
 have h:=hK49
 refine Jd ?_
 revert h
 cases ht62:p42
 refine JF λh=>Jy R<|Js<|Jp<|Je [1,2] R<|Jo1 (κ:=K60) (E:=E6) 6 R R R R R Y29 bG R λal am w64 K65 S66 f67=>Tv<|Jb 1 R<|Jq<|Je [2,1,2,2] R<|Jd3 R U25 R Z2 ?_
 have f68:=f9.stp (T7 S14 S32 S37 S43 S48 S61 S66) R R
 refine Jb3 R I2 (f68.ld 1 R R)<|Ob h λ_z46 hz46 h=>Jf R (qS R R R<|tQ hz46)<|Jb 1 R<|Ob h λ_ hr69 h=>?_
 have hN69:=iw hr69
 refine Ob h λq2 hq71 hK70=>?_
 clear h
 refine Jx1 (λL w'=>∃κ',∃s3:(List Int),∃af ac,L=[(11,.slice af s3.length ac)]/\Stp [6] K65 w64 κ' w'/\Oc E6 2 κ' w' 6 af ac s3/\q2=xe s3) ?_ ?_
 refine Jv<|Jy1 (λk L w'=>∃κ' v47,∃s1:(List Int),∃aa ab,L=[(2,vi p2),(3,vi p3),(4,vi p4),(5,.pointer (some ⟨b5,0,none⟩)),(6,.pointer (some ⟨b6,0,none⟩)),(11,.slice aa s1.length ab),(46,vi<|IntKind.i64.wrap (1 * 2 ^ (min (xh p0.Out)<|IntKind.bits IntKind.i64))),(47,vi v47)]/\Stp [6] K65 w64 κ' w'/\Oc E6 2 κ' w' 6 aa ab s1/\0<=v47/\xh ((IntKind.i64.wrap (1 * 2 ^ (min (xh p0.Out)<|IntKind.bits IntKind.i64)))-v47)=k/\cntM (eW p0 p1 p2 p3 p4) k v47 s1=some q2) ⟨_,_,⟨K65,0,(([]:List Int):(List Int)),al,am,R,Jj3,f67,(by decide),(by simp),hq71⟩,(KM R)⟩ ?_
 rintro k _ w76 ⟨K77,v47,s1,aa,ab,rfl,S78,f79,hj69,hJ69,h⟩
 rcases k with _ | k
 have hk80:=h;obtain⟨o69,h⟩:=bP (xe (Sum.inl s1):(List Int)⊕(((List Int))⊕((List Int))))
 have hc69:decide (v47<(IntKind.i64.wrap (1 * 2 ^ (min (xh p0.Out) (IntKind.bits IntKind.i64)))))=false:=Jo2 (by omega)
 refine Je3 R<|Jq<|Jw2 R hc69<|Jc1<|Jt<|Jt ?_
 cases h
 have h:=hk80
 refine Jb1 ?_
 cases h
 exact Jw1 _ ⟨K77,s1,aa,ab,R,S78.wk R,f79,R⟩<|KM R
 obtain⟨o69,h,hk80⟩:=BI h;unfold eW at h
 have hc69:decide (v47<(IntKind.i64.wrap (1 * 2 ^ (min (xh p0.Out) (IntKind.bits IntKind.i64)))))=true:=Jn2 (by omega)
 refine Je3 R<|Jq<|Jv2 R hc69<|Js<|Jp<|Jq<|Jv<|Je3 R<|Jq<|Js1 (κ:=K77) [0,2,3] none [(0,2),(2,2),(5,2),(9,2),(13,2),(1,0),(3,2),(4,0),(6,0),(7,1),(8,2),(10,2),(11,2),(12,0),(14,2)] [] (by kernel_rfl) (by kernel_rfl) λw82 S81=>Jd3 R U100 R Z26<|Jn 4 R<|Jg R (Jc2 I26 R R<|hvC ((f8.stp (T9 S14 S32 S37 S43 S48 S61 S66 S78 S81) R R).ld 0 R R) R)<|Ob h λx53 hx53 h=>Jc3 R g1_0 hx53 U26 Z29 ?_
 obtain⟨ax53,ux53,f85,hl86⟩:=(g1_0.stp (T11 S3 S7 S14 S32 S37 S43 S48 S61 S66 S78 S81) R R).gSl hx53
 refine Jg R (Jc2 I29 R R<|hvC hl86 R)<|Jg R (Jd2 (cs:=[vi p0.In,vi p0.Out]) I25 Z25 R R R<|haC (f68.stp (S78.tr S81) R R).cells R)<|Ob h λx57 hx57 h=>Jh R R R C52 (fN (κ:=Mk K77) (p0:=p0) hx57) ?_
 rintro _ w88 ⟨k89,rfl,e90⟩
 obtain⟨K91,S92,m93⟩:=Ji e90 7 R
 refine⟨(S92.cl R),Jn 2 R<|Ob h λx61 hx61 h=>Jc3 R f85 hx61 U29 Z2<|Jg R (Jc2 I2 R R<|hvC (f85.gInt hx61) R)<|Jn 1 R<|Jt1<|Jd<|Ob h λq4 h hK95=>Jx1 (λL w'=>∃κ' ad ae,L=[(2,vi p2),(3,vi p3),(4,vi p4),(5,.pointer (some ⟨b5,0,none⟩)),(6,.pointer (some ⟨b6,0,none⟩)),(11,.slice ad q4.length ae),(46,vi<|IntKind.i64.wrap (1 * 2 ^ (min (xh p0.Out)<|IntKind.bits IntKind.i64))),(47,vi v47)]/\Stp [6] K91 w88 κ' w'/\Oc E6 2 κ' w' 6 ad ae q4) ?_ ?_⟩
 revert h
 cases ht100:(x61==p4)
 refine JF λh=>Jy R<|Js ?_
 cases h
 exact Jw1 _ ⟨K91,aa,ab,R,Jj3,(f79.stp (S81.tr S92) R R)⟩<|KM R
 refine JT λh=>Jx R<|Jh3 [2,2,1,1,2] 2 R<|Jn1 (κ:=K91) (E:=E6) 9 [] (parts:=[(0,.tmp 66)]) (cells:=[vi v47]) (xs:=([v47]:List Int)) R R R R R R Y29 bG R R R R R R R R R R ⟨[vi v47],[],Zl K91 w88 [],Zl K91 w88 [],R,Zl.sp (l1:=[]) (l2:=[]) R,Zl.sr (l1:=[]) (l2:=[]),R,R⟩ λaq ap w101 K102 S103 f104=>Tv<|Ob h λx68 hx68 h=>Jm1 (κ:=K102) (E:=E6) 6 [] R R R R R R R R R Y29 bG R R R R (f79.stp (T3 S81 S92 S103) R R) (Sl.srcP (bT _) f104.rdc) bK hx68 R λan ao w106 K107 S108 f109=>Tv<|Jc 1 R ?_
 cases h
 exact Jw1 _ ⟨K107,an,ao,R,(S103.tr S108).wk R,f109⟩<|KM R
 rintro _ w96 ⟨K97,ad,ae,rfl,S98,f99⟩
 have h:=hK95
 refine Jz<|Jp<|Jf3 R ?_
 have hw69:t0 .i64 (v47+1)=v47+1:=wr1 hj69 (Jm2 hc69) hN69
 rw[hw69]
 have hc69:=Jm2 hc69
 cases h
 exact Jz1 λa ha=>⟨k,_,Ja3 _,⟨K97,v47+1,q4,ad,ae,R,(T4 S78 S81 S92 S98).wk R,f99,by omega,by omega,hk80⟩,(ha.mm R)⟩
 rintro _ w72 ⟨K73,s3,af,ac,rfl,S74,f75,rfl⟩
 have h:=yI hK70
 refine Jp<|Je3 R<|Ju<|Ja2 (l:=[.tmp 10]) V93 (Jp2 R R) R ?_
 cases h
 exact⟨(λb=>ren [(6,2)]<|K73 b),af,ac,R,((hE.stp (T10 S3 S7 S14 S32 S37 S43 S48 S61 S66 S74) R R).map (ren [(6,2)]) R R),(f75.map (ren [(6,2)]) R R)⟩
 refine JT λh=>Jx R<|Je3 R<|Ju<|Jw<|Ja2 (l:=[.tmp 10]) V93 (Jp2 R R) R ?_
 cases h
 exact⟨K60,none,0,R,(hE.stp (T8 S3 S7 S14 S32 S37 S43 S48 S61) R R),Ow.nil⟩
end Go.Proofs.YtpcjbkgbnoocaaaGreat
