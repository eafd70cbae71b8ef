/- The walks, part 11. By program. -/
import Derived.Test.YtleekpaohfpooaaGreatFns10KE
set_option linter.unusedVariables false
set_option linter.unusedSimpArgs false
namespace Go.Proofs.YtleekpaohfpooaaGreat
open Go Go.Wk Go.Proofs
set_option maxRecDepth 100000
set_option maxHeartbeats 1000000
variable {w:World}{κ:Col}
theorem sE {a0 u0}{p0:(List Int)}(g0:Rd (Rp.int .u8) κ w 0 a0 u0 p0){r:Bool}(h:nD p0=some r):Ret Tryz.prog 3 [.slice a0 p0.length u0] w (Pvb κ w r):=by
 unfold nD at h
 refine Jk3 κ F3 R N3 R λhE=>Je3 R<|Jq<|Jg3 [2,1] 1 R<|Ob h λx11 hx11 h=>Jr3 R C8 (vq (κ:=Mk κ) (Ji3 g0) hx11) ?_
 rintro _ w1 ⟨k2,rfl,e3⟩
 obtain⟨K4,S5,m6⟩:=Ji e3 2 R
 refine Tv<|Jd ?_
 revert h
 cases ht8:x11
 refine JF λh=>Jy R<|Js<|Jp<|Jg3 [2,1,2] 1 R<|Ob h λx13 hx13 h=>Jr3 R C9 (uM (κ:=λb=>mp [] 1<|K4 b) (Jl2 (g0.stp S5) (mp [] 1) R R) hx13) ?_
 rintro _ w11 ⟨k12,ae,ai,b13,rfl,e13,f14,f15⟩
 obtain⟨K16,S17,m18,z19⟩:=Jj e13 4 R
 refine Tv<|Jb 1 R<|Je [2,1,1] R<|Jf R (bK (parts:=[(0,.const (vi 1)),(1,.const (vi 1))]) (cells:=[vi 1,vi 1]) R R (by kernel_rfl))<|Jt3 (κ:=K16) 8 R X28 R λb4 w22 K23 S24 f25=>Tv<|Jv3 (κ:=K23) 8 (vc:=[vi 1,vi 1]) R Z28 R f25 R λw26 S27 f28=>Tv<|Jd<|Jg3 [2,1,2] 1 R<|Ob h λx16 hx16 h=>?_
 have f29:=(f14.mx z19).stp (S24.tr S27)
 refine Jr3 R C10 (pR (κ:=λb=>mp [(7,2)] 0<|K23 b) (p0:=x13) (Jl2 f29 (mp [(7,2)] 0) R R) (((f15.mx m18 R (R:4+3=7)).stp (S24.tr S27)).map (mp [(7,2)] 0) R R) hx16) ?_
 rintro _ w31 ⟨k32,av,aw,rfl,e33,f34,f35⟩
 obtain⟨K36,S37,m38⟩:=Ji e33 9 R
 refine Tv<|?_
 have f40:=f34.mx Clause.no67 m38 R (R:9+3=12)
 refine Jb 1 R<|Je [1,2,1,2,2,2,1,1,2] R ?_
 have f42:=f28.stp S37
 refine Jb4 tv R (Jc4 (haE f42.cells) I28 Z28 R)<|Jn 1 R<|Ob h λx20 hx20 h=>Jr3 R C11 (p7 (κ:=Mk K36) (p0:=(⟨1,1⟩:Sig)) (Ji3 f40.rdc) hx20) ?_
 rintro _ w43 ⟨k44,an,ao,am,au,rfl,e45,f46,f47⟩
 obtain⟨K48,S49,m50⟩:=Ji e45 13 R
 refine Tv<|?_
 have f52:=f46.mx (cR (bL _) _) m50 R (R:13+2=15)
 have f53:=f47.mx (cR (bL _) _) m50 R (R:13+3=16)
 refine Jn 3 R<|Jt3 (κ:=K48) 17 R X33 R λb6 w54 K55 S56 f57=>Tv<|Jv3 (κ:=K55) 17 (vc:=[.slice an x20.1.Next.length ao,.slice am x20.1.Out.length au]) R Z33 R f57 R λw58 S59 f60=>Tv<|Jb 1 R<|Jq<|Jg3 [2,1,2,1,2] 1 R ?_
 have f61:=f42.stp (T3 S49 S56 S59)
 refine Jb4 tv R (Jc4 (haE f61.cells) I28 Z28 R)<|Jn 1 R<|Ob h λx26 hx26 h=>?_
 have f62:=f40.stp (T3 S49 S56 S59)
 refine Jr3 R C12 (om (κ:=Mk K55) (p0:=(⟨1,1⟩:Sig)) (Ji3 f62.rdc) hx26) ?_
 rintro _ w63 ⟨k64,rfl,e65⟩
 obtain⟨K66,S67,m68⟩:=Ji e65 18 R
 refine Tv<|Jf R (uo R R U4 R)<|Jd ?_
 revert h
 cases ht70:(x20.2 !=x26)
 refine JF λh=>Jy R<|Js<|Jp<|Jq<|Je3 R ?_
 revert h
 cases ht72:(!x20.2)
 refine JF λh=>Jy R<|Js<|Jp<|Jq<|Je3 R<|Ob h λq2 hq85 hK84=>?_
 clear h
 refine Jo3 [4,6] (λE L w'=>∃κ',∃s3:Int×Int,L=E/\Stp [11,20,22,23,25,27,28,29] K66 w63 κ' w'/\Bc κ' w' 11 b13 65 [.slice ae x13.b.length ai,vi s3.1,.int .u64 s3.2]/\q2=Sum.inr s3) ?_ ?_
 refine Jv<|Jp3 [3,4,5,6] (λk E L w'=>∃κ' v8,∃s1:Int×Int,L=(8,vi v8)::E/\Stp [11,20,22,23,25,27,28,29] K66 w63 κ' w'/\Bc κ' w' 11 b13 65 [.slice ae x13.b.length ai,vi s1.1,.int .u64 s1.2]/\0<=v8/\Int.toNat (6-v8)=k/\cntM (iP x13 x16 x20) k v8 s1=some q2) ⟨_,_,⟨K66,0,(x16.2.1,x16.2.2),R,Jj3,((f35.mx m38 R (R:9+2=11)).stp (T4 S49 S56 S59 S67)),(by decide),(by simp),hq85⟩,(KM R)⟩ ?_
 rintro k _ w90 ⟨K91,v8,s1,rfl,S92,f93,hj83,hJ83,h⟩
 rcases k with _ | k
 have hk95:=h;obtain⟨o83,h⟩:=bT (Sum.inr (Sum.inl s1):Bool⊕((Int×Int)⊕(Int×Int)))
 have hc83:decide (v8<6)=false:=Jo2 (by omega)
 refine Jq<|Je3 R<|Jw2 R hc83<|Jc1<|Jt<|Jt ?_
 cases h
 have h:=hk95
 refine Jb1 ?_
 cases h
 exact Jw1 _ ⟨K91,(s1.1,s1.2),R,S92.wk R,f93,R⟩<|KM R
 obtain⟨o83,h,hk95⟩:=BI h;unfold iP at h
 have hc83:decide (v8<6)=true:=Jn2 (by omega)
 refine Jq<|Je3 R<|Jv2 R hc83<|Js<|Jp<|Jq<|Jv<|Jq<|Ob h λx41 hx41 h=>Ob h λx42 hx42 h=>Jo3 [3,4,5,6,8] (λE L w'=>∃κ' b9 af ak ah aj,L=(9,.pointer (some ⟨b9,0,none⟩))::E/\Stp [11,20,22,23,25,27,28,29] K91 w90 κ' w'/\Oc E6 2 κ' w' 20 af ak x42.Stem/\Oc E6 2 κ' w' 21 ah aj x42.Loop/\Bc κ' w' 11 b13 65 [.slice ae x13.b.length ai,vi x41.2.1,.int .u64 x41.2.2]/\Bc κ' w' 22 b9 39 [.slice af x42.Stem.length ak,.slice ah x42.Loop.length aj]) ?_ ?_
 refine WC.rxt (κ:=K91) [8,17] none (by kernel_rfl) λw104 S105=>Jq1 (fuel:=4) [(2,2),(0,0),(1,0)] (by kernel_rfl) (by kernel_rfl) R<|Jn 1 R<|Jg R (Jc4 (haC (f61.stp<|T3 S67 S92 S105).cells R) I28 Z28 R)<|Jg R (Jc4 (haC (f60.stp<|T3 S67 S92 S105).cells R) I33 Z33 R)<|Jp1<|WA.fork2 (fuel:=3) 3 5 (by kernel_rfl) R ?_ ?_
 refine Jr3 R C15 (oI (κ:=λb=>mp [(11,2)] 0<|K91 b) (p0:=(⟨x13.b,s1.1,s1.2⟩:dice)) (Jl2 (f29.stp<|T7 S37 S49 S56 S59 S67 S92 S105) (mp [(11,2)] 0) R R) ((f93.stp S105).map (mp [(11,2)] 0) R R) hx41) ?_
 rintro _ w110 ⟨k111,ar,ap,aq,al,rfl,e112,f113,f114,f115⟩
 obtain⟨K116,S117,m118⟩:=Ji e112 20 R
 refine⟨(S117.cl R),?_⟩
 have f120:=f113.mx (bL _) m118 R (R:20+3=23)
 have f121:=f114.mx (bL _) m118 R (R:20+4=24)
 have f122:=f115.mx m118 R (R:20+2=22)
 refine Jp1<|WA.fork2 (fuel:=2) 4 5 (by kernel_rfl) R ?_ ?_
 have S001:=(T6 S56 S59 S67 S92 S105 S117)
 refine Jr3 R C14 (lN (κ:=Mk K116) (p0:=(⟨1,1⟩:Sig)) (p1:=x20.1) (p2:=x41.1) (Ji3 (f52.stp S001).rdc) (Ji3 (f53.stp S001).rdc) (Ji3 f120.rdc) (Ji3 f121.rdc) hx42) ?_
 rintro _ w125 ⟨k126,aa,ab,ad,ac,rfl,e127,f128,f129⟩
 obtain⟨K130,S131,m132⟩:=Ji e127 25 R
 have S002:=(S117.tr S131)
 exact⟨(S002.cl R),Jp1<|Jq1 (fuel:=0) [(5,1),(6,1)] (by kernel_rfl) (by kernel_rfl) R<|Jt3 (κ:=K130) 29 R X39 R λb9 w136 K137 S138 f139=>⟨((S002.tr S138).cl R),Jv3 (κ:=K137) 29 (vc:=[.slice aa x42.Stem.length ab,.slice ad x42.Loop.length ac]) R Z39 R f139 R λw140 S141 f142=>⟨((T3 S002 S138 S141).cl R),Jp1<|Jr1 [] (by kernel_rfl) (by kernel_rfl) R<|Jo<|Jw1 _ ⟨(λb=>ren [(27,20),(28,21),(22,11),(29,22)]<|K137 b),b9,aa,ab,ad,ac,R,(Jy2 ((T5 S105 S117 S131 S138 S141).wk R) [(27,20),(28,21),(22,11),(29,22)] R),(((f128.mx (bL _) m132 R (R:25+2=27)).stp (S138.tr S141)).map (ren [(27,20),(28,21),(22,11),(29,22)]) R R),(((f129.mx (bL _) m132 R (R:25+3=28)).stp (S138.tr S141)).map (ren [(27,20),(28,21),(22,11),(29,22)]) R R),((f122.stp<|T3 S131 S138 S141).map (ren [(27,20),(28,21),(22,11),(29,22)]) R R),(f142.map (ren [(27,20),(28,21),(22,11),(29,22)]) R R)⟩<|KM R⟩⟩⟩
 have S003:=(T6 S56 S59 S67 S92 S105 S117)
 refine Jt3 (κ:=K116) 25 R X39 R λb9 w146 K147 S148 f149=>⟨((S117.tr S148).cl R),Jp1<|Jq1 (fuel:=0) [(4,1),(6,1)] (by kernel_rfl) (by kernel_rfl) R<|Jr3 R C14 (lN (κ:=Mk K147) (p0:=(⟨1,1⟩:Sig)) (p1:=x20.1) (p2:=x41.1) (Ji3 (f52.stp<|S003.tr S148).rdc) (Ji3 (f53.stp<|S003.tr S148).rdc) (Ji3 (f120.stp S148).rdc) (Ji3 (f121.stp S148).rdc) hx42) ?_⟩
 rintro _ w154 ⟨k155,aa,ab,ad,ac,rfl,e156,f157,f158⟩
 obtain⟨K159,S160,m161⟩:=Ji e156 26 R
 have S004:=(T3 S117 S148 S160)
 exact⟨(S004.cl R),Jv3 (κ:=K159) 25 (vc:=[.slice aa x42.Stem.length ab,.slice ad x42.Loop.length ac]) R Z39 R (f149.stp S160) R λw166 S167 f168=>⟨((S004.tr S167).cl R),Jp1<|Jr1 [] (by kernel_rfl) (by kernel_rfl) R<|Jo<|Jw1 _ ⟨(λb=>ren [(28,20),(29,21),(22,11),(25,22)]<|K159 b),b9,aa,ab,ad,ac,R,(Jy2 ((T5 S105 S117 S148 S160 S167).wk R) [(28,20),(29,21),(22,11),(25,22)] R),(((f157.mx (bL _) m161 R (R:26+2=28)).stp S167).map (ren [(28,20),(29,21),(22,11),(25,22)]) R R),(((f158.mx (bL _) m161 R (R:26+3=29)).stp S167).map (ren [(28,20),(29,21),(22,11),(25,22)]) R R),((f122.stp<|T3 S148 S160 S167).map (ren [(28,20),(29,21),(22,11),(25,22)]) R R),(f168.map (ren [(28,20),(29,21),(22,11),(25,22)]) R R)⟩<|KM R⟩⟩
 refine Jt3 (κ:=K91) 20 R X39 R λb9 w172 K173 S174 f175=>⟨(S174.cl R),Jp1<|Jq1 (fuel:=0) [(3,1),(4,1),(6,1)] (by kernel_rfl) (by kernel_rfl) R<|Jr3 R C15 (oI (κ:=λb=>mp [(11,2)] 0<|K173 b) (p0:=(⟨x13.b,s1.1,s1.2⟩:dice)) (Jl2 (f29.stp<|T8 S37 S49 S56 S59 S67 S92 S105 S174) (mp [(11,2)] 0) R R) ((f93.stp<|S105.tr S174).map (mp [(11,2)] 0) R R) hx41) ?_⟩
 rintro _ w178 ⟨k179,ar,ap,aq,al,rfl,e180,f181,f182,f183⟩
 obtain⟨K184,S185,m186⟩:=Ji e180 21 R
 have S005:=(T7 S56 S59 S67 S92 S105 S174 S185)
 refine⟨((S174.tr S185).cl R),Jr3 R C14 (lN (κ:=Mk K184) (p0:=(⟨1,1⟩:Sig)) (p1:=x20.1) (p2:=x41.1) (Ji3 (f52.stp S005).rdc) (Ji3 (f53.stp S005).rdc) (Ji3 (f181.mx (bL _) m186 R (R:21+3=24)).rdc) (Ji3 (f182.mx (bL _) m186 R (R:21+4=25)).rdc) hx42) ?_⟩
 rintro _ w193 ⟨k194,aa,ab,ad,ac,rfl,e195,f196,f197⟩
 obtain⟨K198,S199,m200⟩:=Ji e195 26 R
 have S006:=(T3 S174 S185 S199)
 exact⟨(S006.cl R),Jv3 (κ:=K198) 20 (vc:=[.slice aa x42.Stem.length ab,.slice ad x42.Loop.length ac]) R Z39 R (f175.stp<|S185.tr S199) R λw205 S206 f207=>⟨((S006.tr S206).cl R),Jp1<|Jr1 [] (by kernel_rfl) (by kernel_rfl) R<|Jo<|Jw1 _ ⟨(λb=>ren [(28,20),(29,21),(23,11),(20,22)]<|K198 b),b9,aa,ab,ad,ac,R,(Jy2 ((T5 S105 S174 S185 S199 S206).wk R) [(28,20),(29,21),(23,11),(20,22)] R),(((f196.mx (bL _) m200 R (R:26+2=28)).stp S206).map (ren [(28,20),(29,21),(23,11),(20,22)]) R R),(((f197.mx (bL _) m200 R (R:26+3=29)).stp S206).map (ren [(28,20),(29,21),(23,11),(20,22)]) R R),(((f183.mx m186 R (R:21+2=23)).stp (S199.tr S206)).map (ren [(28,20),(29,21),(23,11),(20,22)]) R R),(f207.map (ren [(28,20),(29,21),(23,11),(20,22)]) R R)⟩<|KM R⟩⟩
 rintro _ w96 ⟨K97,b9,af,ak,ah,aj,rfl,S98,f100,f101,f102,f103⟩
 refine Jp<|Je [1,2,1,1,2] R<|Jb4 tv R (Jc4 (haE (f61.stp<|T3 S67 S92 S98).cells) I28 Z28 R)<|Jn 1 R<|Jb4 tv R (Jc4 (haE f103.cells) I39 Z39 R)<|Ob h λx46 hx46 h=>Jr3 R C16 (rO (κ:=Mk K97) (p0:=(⟨1,1⟩:Sig)) (p2:=x42) (Ji3 (f62.stp<|T3 S67 S92 S98).rdc) (Ji3 f100.rdc) (Ji3 f101.rdc) hx46) ?_
 rintro _ w213 ⟨k214,rfl,e215⟩
 obtain⟨K216,S217,m218⟩:=Ji e215 23 R
 refine Tv<|Jb 1 R ?_
 revert h
 cases ht220:(!x46)
 refine JF λh=>Jy R<|Js<|Jz<|Jp<|Jf3 R ?_
 have hw83:IntKind.wrap .i64 (v8+1)=v8+1:=wr1 hj83 (Jm2 hc83) (by decide)
 rw[hw83]
 have hc83:=Jm2 hc83
 cases h
 exact Jz1 λa ha=>⟨k,_,Ja3 _,⟨K216,v8+1,(x41.2.1,x41.2.2),R,(T3 S92 S98 S217).wk R,(f102.stp S217),by omega,by omega,hk95⟩,(ha.mm R)⟩
 refine JT λh=>Jx R<|Je3 R<|Ju<|Ja1<|Jw<|Jw ?_
 cases h
 obtain rfl:=Option.some.inj hk95
 have h:=yL hK84
 refine Ja1<|Jq2<|Jw<|Ja2 (l:=[.tmp 2]) V3 (Jp2 R R) R ?_
 cases h
 exact⟨K216,R,(hE.stp<|T12 S5 S17 S24 S27 S37 S49 S56 S59 S67 S92 S98 S217)⟩
 rintro _ w86 ⟨K87,s3,rfl,S88,f89,rfl⟩
 have h:=yI hK84
 have S007:=(T4 S56 S59 S67 S88)
 refine Jp<|Je [1,1,1,2] R<|Jb4 tv R (Jc4 (haE (f61.stp<|S67.tr S88).cells) I28 Z28 R)<|Jb4 tv R (Jc4 (haE (f60.stp<|S67.tr S88).cells) I33 Z33 R)<|Ob h λx50 hx50 h=>Jr3 R C17 (mv (κ:=Mk K87) (p0:=(⟨1,1⟩:Sig)) (p1:=x20.1) (Ji3 (f52.stp S007).rdc) (Ji3 (f53.stp S007).rdc) hx50) ?_
 rintro _ w227 ⟨k228,rfl,e229⟩
 obtain⟨K230,S231,m232⟩:=Ji e229 20 R
 refine Tv<|Jb 1 R<|Ju<|Ja2 (l:=[.tmp 2]) V3 (Jp2 R R) R ?_
 cases h
 exact⟨K230,R,(hE.stp<|T11 S5 S17 S24 S27 S37 S49 S56 S59 S67 S88 S231)⟩
 refine JT λh=>Jx R<|Je [1,2,1,2,2] R<|Jb4 tv R (Jc4 (haE (f61.stp S67).cells) I28 Z28 R)<|Jn 1 R<|Ob h λx32 hx32 h=>Jr3 R C13 (ou (κ:=Mk K66) (p0:=(⟨1,1⟩:Sig)) (Ji3 (f62.stp S67).rdc) hx32) ?_
 rintro _ w75 ⟨k76,rfl,e77⟩
 obtain⟨K78,S79,m80⟩:=Ji e77 20 R
 refine Tv<|Jb 2 R<|Ju<|Jw<|Ja2 (l:=[.tmp 2]) V3 (Jp2 R R) R ?_
 cases h
 exact⟨K78,R,(hE.stp<|T10 S5 S17 S24 S27 S37 S49 S56 S59 S67 S79)⟩
 refine JT λh=>Jx R<|Je3 R<|Ju<|Jw<|Ja2 (l:=[.tmp 2]) V3 (Jp2 R R) R ?_
 cases h
 exact⟨K66,R,(hE.stp<|T9 S5 S17 S24 S27 S37 S49 S56 S59 S67)⟩
 refine JT λh=>Jx R<|Je3 R<|Ju<|Jw<|Ja2 (l:=[.tmp 2]) V3 (Jp2 R R) R ?_
 cases h
 exact⟨K4,R,(hE.stp S5)⟩
end Go.Proofs.YtleekpaohfpooaaGreat
