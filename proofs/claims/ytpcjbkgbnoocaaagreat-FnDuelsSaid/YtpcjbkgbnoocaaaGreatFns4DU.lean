/- The walks, part 4. By program. -/
import Derived.Test.YtpcjbkgbnoocaaaGreatFns3DU
set_option linter.unusedVariables false
set_option linter.unusedSimpArgs false
open Go.IntKind renaming wrap → sh
open Sum renaming inr → yk, inl → yl
open Int renaming toNat → yn
namespace Go.Proofs.YtpcjbkgbnoocaaaGreat
open Go Go.Wk Go.Proofs
set_option maxRecDepth 100000
set_option maxHeartbeats 1000000
variable {w:World}{κ:Col}
theorem lO {aa ab}{p0:l1Cur}{b0}(g0_0:Rd (Rp.int .u8) κ w 0 aa ab p0.b) (gb0:Bc κ w 2 b0 142 [.slice aa p0.b.length ab,vi p0.i,vi p0.h]){r:Sig×Int×Int}(h:fC p0=some r):Ret Tryz.prog 43 [.pointer (some ⟨b0,0,none⟩)] w (λv w'=>∃(κ':Col),v= .agg #[vi r.1.In,vi r.1.Out]/\Ent κ w κ' w'/\Bc κ' w' 2 b0 142 [.slice aa p0.b.length ab,vi r.2.1,vi r.2.2]):=by
 unfold fC at h
 refine Jk3 κ F43 R N43 R λhE=>Je [1] R<|Jg1 (κ:=κ) 3 R R R R R X25 R λb2 w1 K2 S3 f4=>Tv<|Jd<|Je [2,1,1] R<|Jf R (bG (parts:=[(0,.const (vi 1)),(1,.const (vi 1))]) (cells:=[vi 1,vi 1]) R R (by kernel_rfl))<|Jg1 (κ:=K2) 4 R R R R R X25 R λb3 w5 K6 S7 f8=>Tv<|Jj1 (κ:=K6) 4 (vc:=[vi 1,vi 1]) R R R R R R R Z25 R R f8 R λw9 S10 f11=>Tv<|Jd<|Jq<|Jg3 [2,1] 1 R<|Ob h λx6 hx6 h=>?_
 have f12:=g0_0.stp (T3 S3 S7 S10) R R
 refine Jh R R R C45 (c9 (κ:=λb=>mp [(2,2)] 0<|K6 b) (p0:=p0) (Jl2 f12 (mp [(2,2)] 0) R R) ((gb0.stp (T3 S3 S7 S10) R R).map (mp [(2,2)] 0) R R) hx6) ?_
 rintro _ w14 ⟨k15,rfl,e16,f17⟩
 obtain⟨K18,S19,m20⟩:=Ji e16 5 R
 refine Tv<|?_
 have f22:=f17.mx m20 R (R:5+2=7)
 refine Jd<|Ob h λq1 h hK23=>Jx1 (λL w'=>∃κ',L=[(0,.pointer (some ⟨b0,0,none⟩)),(2,.pointer (some ⟨b2,0,none⟩)),(3,.pointer (some ⟨b3,0,none⟩))]/\Stp [4,7,10,13] K18 w14 κ' w'/\Bc κ' w' 7 b0 142 [.slice aa p0.b.length ab,vi q1.1,vi q1.2.1]/\Bc κ' w' 4 b3 25 [vi q1.2.2.1,vi q1.2.2.2]) ?_ ?_
 revert h
 cases ht29:x6.1
 refine JF λh=>Jy R<|Js ?_
 cases h
 exact Jw1 _ ⟨K18,R,Jj3,f22,(f11.stp S19 R R)⟩<|KM R
 refine JT λh=>Jx R<|Jh3 [2,1,2,2,1,2,2,1] 1 R<|Ob h λx8 hx8 h=>?_
 have f30:=f12.stp S19 R R
 refine Jh R R R C105 (bS (κ:=λb=>mp [(7,2)] 0<|K18 b) (p0:=(⟨p0.b,x6.2.1,x6.2.2⟩:l1Cur)) (Jl2 f30 (mp [(7,2)] 0) R R) (f22.map (mp [(7,2)] 0) R R) hx8) ?_
 rintro _ w31 ⟨k32,rfl,e33,f34⟩
 obtain⟨K35,S36,m37⟩:=Ji e33 8 R
 refine Tv<|Jn 2 R<|Ob h λx11 hx11 h=>Jh R R R C105 (bS (κ:=λb=>mp [(10,2)] 0<|K35 b) (p0:=(⟨p0.b,x8.2.1,x8.2.2⟩:l1Cur)) (Jl2 (f30.stp S36 R R) (mp [(10,2)] 0) R R) ((f34.mx m37 R (R:8+2=10)).map (mp [(10,2)] 0) R R) hx11) ?_
 rintro _ w41 ⟨k42,rfl,e43,f44⟩
 obtain⟨K45,S46,m47⟩:=Ji e43 11 R
 refine Tv<|Jn 1 R<|Jf R (bG (parts:=[(0,.tmp 9),(1,.tmp 12)]) (cells:=[vi (IntKind.i64.wrap (1+x8.1)),vi<|IntKind.i64.wrap (1+x11.1)]) R R (by kernel_rfl))<|Jj1 (κ:=K45) 4 (vc:=[vi (IntKind.i64.wrap (1+x8.1)),vi<|IntKind.i64.wrap (1+x11.1)]) R R R R R R R Z25 R R (f11.stp (T3 S19 S36 S46) R R) R λw51 S52 f53=>Tv<|Jo ?_
 cases h
 exact Jw1 _ ⟨(λb=>ren [(13,7)]<|K45 b),R,(Jy2 ((T3 S36 S46 S52).wk R) [(13,7)] R),(((f44.mx m47 R (R:11+2=13)).stp S52 R R).map (ren [(13,7)]) R R),(f53.map (ren [(13,7)]) R R)⟩<|KM R
 rintro _ w24 ⟨K25,rfl,S26,f27,f28⟩
 have h:=hK23
 refine Jp<|Jq<|Jg3 [2,1] 1 R<|Ob h λx15 hx15 h=>?_
 have f56:=f12.stp (S19.tr S26) R R
 refine Jh R R R C45 (c9 (κ:=λb=>mp [(7,2)] 0<|K25 b) (p0:=(⟨p0.b,q1.1,q1.2.1⟩:l1Cur)) (Jl2 f56 (mp [(7,2)] 0) R R) (f27.map (mp [(7,2)] 0) R R) hx15) ?_
 rintro _ w57 ⟨k58,rfl,e59,f60⟩
 obtain⟨K61,S62,m63⟩:=Ji e59 8 R
 refine Tv<|?_
 have f65:=f60.mx m63 R (R:8+2=10)
 refine Jd<|Ob h λq2 h hK66=>Jx1 (λL w'=>∃κ',L=[(0,.pointer (some ⟨b0,0,none⟩)),(2,.pointer (some ⟨b2,0,none⟩)),(3,.pointer (some ⟨b3,0,none⟩))]/\Stp [4,10,13] K61 w57 κ' w'/\Bc κ' w' 10 b0 142 [.slice aa p0.b.length ab,vi q2.1,vi q2.2.1]/\Bc κ' w' 4 b3 25 [vi q1.2.2.1,vi q2.2.2]) ?_ ?_
 revert h
 cases ht72:x15.1
 refine JF λh=>Jy R<|Js ?_
 cases h
 exact Jw1 _ ⟨K61,R,Jj3,f65,(f28.stp S62 R R)⟩<|KM R
 refine JT λh=>Jx R<|Jh3 [2,1,2,1] 1 R<|Ob h λx17 hx17 h=>Jh R R R C106 (gl (κ:=λb=>mp [(10,2)] 0<|K61 b) (p0:=(⟨p0.b,x15.2.1,x15.2.2⟩:l1Cur)) (Jl2 (f56.stp S62 R R) (mp [(10,2)] 0) R R) (f65.map (mp [(10,2)] 0) R R) hx17) ?_
 rintro _ w74 ⟨k75,rfl,e76,f77⟩
 obtain⟨K78,S79,m80⟩:=Ji e76 11 R
 refine Tv<|Jd3 R U25 R Z2<|Ji1 (κ:=K78) 4 (off:=1) (vc:=[vi x17.1]) (cs':=[vi q1.2.2.1,vi x17.1]) R R R R R R R Z2 R R (f28.stp (S62.tr S79) R R) R R λw84 S85 f86=>Tv<|Jo ?_
 cases h
 exact Jw1 _ ⟨(λb=>ren [(13,10)]<|K78 b),R,(Jy2 ((S79.tr S85).wk R) [(13,10)] R),(((f77.mx m80 R (R:11+2=13)).stp S85 R R).map (ren [(13,10)]) R R),(f86.map (ren [(13,10)]) R R)⟩<|KM R
 rintro _ w67 ⟨K68,rfl,S69,f70,f71⟩
 have h:=hK66
 refine Jp<|Je [1,1] R<|Jl tv R R R R (Jd2 (cs:=[vi q1.2.2.1,vi q2.2.2]) I25 Z25 R R R<|haE f71.cells)<|Jj1 (κ:=K68) 3 (vc:=[vi q1.2.2.1,vi q2.2.2]) R R R R R R R Z25 R R (f4.stp (T6 S7 S10 S19 S26 S62 S69) R R) R λw90 S91 f92=>Tv<|Jd<|Ju<|Ja2 (l:=[.cell 2 25]) V43 (bF R f92 I25 Z25 R R) R ?_
 cases h
 exact⟨(λb=>ren [(10,2)]<|K68 b),R,((hE.stp (T8 S3 S7 S10 S19 S26 S62 S69 S91) R R).map (ren [(10,2)]) R R),((f70.stp S91 R R).map (ren [(10,2)]) R R)⟩
theorem n8 {ab aa}{p0:l1Cur}{p1:Sig}{b0}(g0_0:Rd (Rp.int .u8) κ w 0 ab aa p0.b) (gb0:Bc κ w 2 b0 142 [.slice ab p0.b.length aa,vi p0.i,vi p0.h]){r:Machine×Int×Int}(h:jx p0 p1=some r):Ret Tryz.prog 157 [.pointer (some ⟨b0,0,none⟩),.agg #[vi p1.In,vi p1.Out]] w (λv w'=>∃(κ':Col) (ra0:Option Addr) (ru0:Nat) (ra1:Option Addr) (ru1:Nat),v= .agg #[.slice ra0 r.1.Next.length ru0,.slice ra1 r.1.Out.length ru1]/\Ent κ w κ' w'/\Oc (Ep.own E6 2) 29 κ' w' 3 ra0 ru0 r.1.Next/\Oc (Ep.own E6 2) 29 κ' w' 4 ra1 ru1 r.1.Out/\Bc κ' w' 2 b0 142 [.slice ab p0.b.length aa,vi r.2.1,vi r.2.2]):=by
 unfold jx at h
 refine Jk3 κ F157 R N157 R λhE=>Je [1,1] R<|Jf1 (κ:=κ) 3 R R R R R R R λb3 w1 K2 S3 f4=>Tv<|Jg1 (κ:=K2) 4 R R R R R X28 R λb4 w5 K6 S7 f8=>Tv<|Jd<|Jg3 [2,1,2,2] 1 R<|Ob h λx12 hx12 h=>?_
 have f9:=g0_0.stp (S3.tr S7) R R
 refine Jh R R R C105 (bS (κ:=λb=>mp [(2,2)] 0<|K6 b) (p0:=p0) (Jl2 f9 (mp [(2,2)] 0) R R) ((gb0.stp (S3.tr S7) R R).map (mp [(2,2)] 0) R R) hx12) ?_
 rintro _ w11 ⟨k12,rfl,e13,f14⟩
 obtain⟨K15,S16,m17⟩:=Ji e13 5 R
 refine Tv<|Jb 2 R<|Je [2,1,1] R<|Jf R (bG (parts:=[]) (cells:=[.slice none 0 0,.slice none 0 0]) R R (by kernel_rfl))<|Jg1 (κ:=K15) 8 R R R R R X28 R λb6 w20 K21 S22 f23=>Tv<|Jj1 (κ:=K21) 8 (vc:=[.slice none 0 0,.slice none 0 0]) R R R R R R R Z28 R R f23 R λw24 S25 f26=>Tv<|Jd<|Jq<|Je3 R<|Ob h λ_ hr27 h=>?_
 have hN27:=mu hr27
 refine Ob h λq2 hq29 hK28=>?_
 clear h
 refine Jx1 (λL w'=>∃κ',∃s3:Int×Int×(List<|List Int)×(List<|List Int),∃ae ac af ad,L=[(0,.pointer (some ⟨b0,0,none⟩)),(4,.pointer (some ⟨b4,0,none⟩)),(5,vi<|IntKind.i64.wrap (1+x12.1)),(6,.pointer (some ⟨b6,0,none⟩))]/\Stp [7,8,9,10,11,12,13,14,17,23] K21 w24 κ' w'/\Oc (Ep.own E6 2) 29 κ' w' 9 ae ac s3.2.2.1/\Oc (Ep.own E6 2) 29 κ' w' 10 af ad s3.2.2.2/\Bc κ' w' 7 b0 142 [.slice ab p0.b.length aa,vi s3.1,vi s3.2.1]/\Bc κ' w' 8 b6 28 [.slice ae s3.2.2.1.length ac,.slice af s3.2.2.2.length ad]/\q2=yk s3) ?_ ?_
 refine Jv<|Jy1 (λk L w'=>∃κ' v7,∃s1:Int×Int×(List<|List Int)×(List<|List Int),∃an ap al ai,L=[(0,.pointer (some ⟨b0,0,none⟩)),(3,.pointer (some ⟨b3,0,none⟩)),(4,.pointer (some ⟨b4,0,none⟩)),(5,vi<|IntKind.i64.wrap (1+x12.1)),(6,.pointer (some ⟨b6,0,none⟩)),(7,vi v7)]/\Stp [7,8,9,10,11,12,13,14,17,23] K21 w24 κ' w'/\Oc (Ep.own E6 2) 29 κ' w' 9 an ap s1.2.2.1/\Oc (Ep.own E6 2) 29 κ' w' 10 al ai s1.2.2.2/\Bc κ' w' 7 b0 142 [.slice ab p0.b.length aa,vi s1.1,vi s1.2.1]/\Bc κ' w' 8 b6 28 [.slice an s1.2.2.1.length ap,.slice al s1.2.2.2.length ai]/\0<=v7/\yn ((IntKind.i64.wrap (1+x12.1))-v7)=k/\cntM (gL p0 p1 x12) k v7 s1=some q2) ⟨_,_,⟨K21,0,(x12.2.1,x12.2.2,(([]:List (List Int)):(List<|List Int)),(([]:List (List Int)):(List<|List Int))),none,0,none,0,R,Jj3,Ow.nil,Ow.nil,((f14.mx m17 R (R:5+2=7)).stp (S22.tr S25) R R),f26,(by decide),(by simp),hq29⟩,(KM R)⟩ ?_
 rintro k _ w37 ⟨K38,v7,s1,an,ap,al,ai,rfl,S39,f40,f41,f42,f43,hj27,hJ27,h⟩
 rcases k with _ | k
 have hk45:=h;obtain⟨o27,h⟩:=ca (yk (yl s1):(Machine×Int×Int)⊕((Int×Int×(List (List Int))×(List (List Int)))⊕(Int×Int×(List (List Int))×(List (List Int)))))
 have hc27:decide (v7<(IntKind.i64.wrap (1+x12.1)))=false:=Jo2 (by omega)
 refine Jq<|Je3 R<|Jw2 R hc27<|Jc1<|Jt<|Jt ?_
 cases h
 have h:=hk45
 refine Jb1 ?_
 cases h
 exact Jw1 _ ⟨K38,(s1.1,s1.2.1,s1.2.2.1,s1.2.2.2),an,ap,al,ai,R,S39.wk R,f40,f41,f42,f43,R⟩<|KM R
 obtain⟨o27,h,hk45⟩:=BI h;unfold gL at h
 have hc27:decide (v7<(IntKind.i64.wrap (1+x12.1)))=true:=Jn2 (by omega)
 refine Jq<|Je3 R<|Jv2 R hc27<|Js<|Jp<|Jq<|Jv<|Je [1,2] R<|Jo1 (κ:=K38) (E:=E6) 11 R R R R R Y29 a8 R λaC aD w46 K47 S48 f49=>Tv<|Jb 1 R<|Je [1,2] R<|Jo1 (κ:=K47) (E:=E6) 12 R R R R R Y29 a8 R λaF aA w50 K51 S52 f53=>Tv<|Jb 1 R<|Jq<|Je3 R<|Ob h λq5 hq56 hK55=>?_
 clear h
 refine Jx1 (λL w'=>∃κ',∃s6:(List Int)×(List Int)×Int×Int×Int,∃ak am aj ah,L=[(0,.pointer (some ⟨b0,0,none⟩)),(3,.pointer (some ⟨b3,0,none⟩)),(4,.pointer (some ⟨b4,0,none⟩)),(5,vi<|IntKind.i64.wrap (1+x12.1)),(6,.pointer (some ⟨b6,0,none⟩)),(7,vi v7),(8,.slice ak s6.1.length am),(9,.slice aj s6.2.1.length ah)]/\Stp [7,11,12,17,23] K51 w50 κ' w'/\Oc E6 2 κ' w' 11 ak am s6.1/\Oc E6 2 κ' w' 12 aj ah s6.2.1/\Bc κ' w' 7 b0 142 [.slice ab p0.b.length aa,vi s6.2.2.2.1,vi s6.2.2.2.2]/\q5=yk s6) ?_ ?_
 refine Jv<|Jy1 (λk L w'=>∃κ',∃s4:(List Int)×(List Int)×Int×Int×Int,∃aq ao au aw,L=[(0,.pointer (some ⟨b0,0,none⟩)),(3,.pointer (some ⟨b3,0,none⟩)),(4,.pointer (some ⟨b4,0,none⟩)),(5,vi<|IntKind.i64.wrap (1+x12.1)),(6,.pointer (some ⟨b6,0,none⟩)),(7,vi v7),(8,.slice aq s4.1.length ao),(9,.slice au s4.2.1.length aw),(10,vi s4.2.2.1)]/\Stp [7,11,12,17,23] K51 w50 κ' w'/\Oc E6 2 κ' w' 11 aq ao s4.1/\Oc E6 2 κ' w' 12 au aw s4.2.1/\Bc κ' w' 7 b0 142 [.slice ab p0.b.length aa,vi s4.2.2.2.1,vi s4.2.2.2.2]/\bI (gK p0 p1 x12) k s4=some q5) ⟨_,_,⟨K51,((([]:List Int):(List Int)),(([]:List Int):(List Int)),(0:Int),s1.1,s1.2.1),aC,aD,aF,aA,R,Jj3,(f49.stp S52 R R),f53,(f42.stp (S48.tr S52) R R),hq56⟩,(KM R)⟩ ?_
 rintro k _ w63 ⟨K64,s4,aq,ao,au,aw,rfl,S65,f66,f67,f68,h⟩
 rcases k with _ | k
 cases h
 obtain⟨o54,h,hk71⟩:=BI h;unfold gK at h
 refine Jq<|Jg3 [2,1,1,2] 1 R ?_
 have f72:=f4.stp (T8 S7 S16 S22 S25 S39 S48 S52 S65) R R
 refine Jl tv R R R R (Jd2 (cs:=[vi p1.In,vi p1.Out]) I25 Z25 R R R<|haE f72.cells)<|Ob h λx24 hx24 h=>Jh R R R C103 (mt (κ:=Mk K64) (p0:=p1) hx24) ?_
 rintro _ w73 ⟨k74,rfl,e75⟩
 obtain⟨K76,S77,m78⟩:=Ji e75 13 R
 refine Tv<|Jb 1 R ?_
 revert h
 cases ht80:decide (s4.2.2.1<x24)
 refine JF λh=>Jy R<|Jc1<|Jt<|Jt ?_
 cases h
 have h:=hk71
 refine Jb1 ?_
 cases h
 exact Jw1 _ ⟨K76,(s4.1,s4.2.1,s4.2.2.1,s4.2.2.2.1,s4.2.2.2.2),aq,ao,au,aw,R,(S65.tr S77).wk R,(f66.stp S77 R R),(f67.stp S77 R R),(f68.stp S77 R R),R⟩<|KM R
 refine JT λh=>Jx R<|Js<|Jp<|Jq<|Jv<|Jg3 [2,2,2,1,1,1,2] 3 R<|Ob h λx31 hx31 h=>?_
 have f81:=f9.stp (T8 S16 S22 S25 S39 S48 S52 S65 S77) R R
 refine Jh R R R C105 (bS (κ:=λb=>mp [(7,2)] 0<|K76 b) (p0:=(⟨p0.b,s4.2.2.2.1,s4.2.2.2.2⟩:l1Cur)) (Jl2 f81 (mp [(7,2)] 0) R R) ((f68.stp S77 R R).map (mp [(7,2)] 0) R R) hx31) ?_
 rintro _ w83 ⟨k84,rfl,e85,f86⟩
 obtain⟨K87,S88,m89⟩:=Ji e85 15 R
 refine Tv<|Jn1 (κ:=K87) (E:=E6) 18 [] (parts:=[(0,.tmp 31)]) (cells:=[vi x31.1]) (xs:=([x31.1]:List Int)) R R R R R R Y29 a8 R R R R R R R R R R ⟨[vi x31.1],[],Zl K87 w83 [],Zl K87 w83 [],R,Zl.sp (l1:=[]) (l2:=[]) R,Zl.sr (l1:=[]) (l2:=[]),R,R⟩ λaH aR w92 K93 S94 f95=>Tv<|Ob h λx33 hx33 h=>Jm1 (κ:=K93) (E:=E6) 11 [] R R R R R R R R R Y29 a8 R R R R (f66.stp (T3 S77 S88 S94) R R) (Sl.srcP (bM _) f95.rdc) bH hx33 R λaE aG w97 K98 S99 f100=>Tv<|Jb 1 R<|Jh3 [2,2,2,1,1,1,1,1,2] 2 R<|Jd3 R U25 R Z2<|Jb3 R I2 ((f72.stp (T4 S77 S88 S94 S99) R R).ld 1 R R)<|Ob h λx38 hx38 h=>Jh R R R C59 (cv (κ:=Mk K98) hx38) ?_
 rintro _ w102 ⟨k103,rfl,e104⟩
 obtain⟨K105,S106,m107⟩:=Ji e104 19 R
 refine Tv<|Ob h λx39 hx39 h=>Jh R R R C105 (bS (κ:=λb=>mp [(17,2)] 0<|K105 b) (p0:=(⟨p0.b,x31.2.1,x31.2.2⟩:l1Cur)) (Jl2 (f81.stp (T4 S88 S94 S99 S106) R R) (mp [(17,2)] 0) R R) (((f86.mx m89 R (R:15+2=17)).stp (T3 S94 S99 S106) R R).map (mp [(17,2)] 0) R R) hx39) ?_
 rintro _ w111 ⟨k112,rfl,e113,f114⟩
 obtain⟨K115,S116,m117⟩:=Ji e113 21 R
 refine Tv<|Jn1 (κ:=K115) (E:=E6) 24 [] (parts:=[(0,.tmp 39)]) (cells:=[vi x39.1]) (xs:=([x39.1]:List Int)) R R R R R R Y29 a8 R R R R R R R R R R ⟨[vi x39.1],[],Zl K115 w111 [],Zl K115 w111 [],R,Zl.sp (l1:=[]) (l2:=[]) R,Zl.sr (l1:=[]) (l2:=[]),R,R⟩ λaS aN w120 K121 S122 f123=>Tv<|Ob h λx41 hx41 h=>Jm1 (κ:=K121) (E:=E6) 12 [] R R R R R R R R R Y29 a8 R R R R (f67.stp (T7 S77 S88 S94 S99 S106 S116 S122) R R) (Sl.srcP (bM _) f123.rdc) bH hx41 R λaz aB w125 K126 S127 f128=>Tv<|Jc 1 R<|Jz<|Jp<|Jf3 R ?_
 cases h
 exact Jz1 λa ha=>⟨k,_,Ja3 _,⟨(λb=>ren [(23,7)]<|K126 b),(x33,x41,((IntKind.i64.wrap<|s4.2.2.1+1):Int),x39.2.1,x39.2.2),aE,aG,az,aB,R,(Jy2 ((T9 S65 S77 S88 S94 S99 S106 S116 S122 S127).wk R) [(23,7)] R),((f100.stp (T4 S106 S116 S122 S127) R R).map (ren [(23,7)]) R R),(f128.map (ren [(23,7)]) R R),(((f114.mx m117 R (R:21+2=23)).stp (S122.tr S127) R R).map (ren [(23,7)]) R R),hk71⟩,(ha.mm R)⟩
 rintro _ w57 ⟨K58,s6,ak,am,aj,ah,rfl,S59,f60,f61,f62,rfl⟩
 have h:=yI hK55
 refine Jp<|Je [2,1,2,1,1,2,1] R<|Jd3 R U28 R Z26 ?_
 have f134:=f43.stp (T3 S48 S52 S59) R R
 refine Jb3 R I26 (f134.ld 0 R R)<|Jn 1 R<|Jn1 (κ:=K58) (E:=(Ep.own E6 2)) 13 [11] (parts:=[(0,.tmp 44)]) (cells:=[.slice ak s6.1.length am]) (xs:=([s6.1]:List (List Int))) R R R R R R Y26 bK R R R R R R R R R R ⟨[.slice ak s6.1.length am],[],Zl K58 w57 [11],Zl K58 w57 [],R,Zl.sp (l1:=[11]) (l2:=[]) R,Zl.sr (l1:=[11]) (l2:=[]),⟨_,_,R,f60⟩,R⟩ λaM aJ w135 K136 S137 f138=>Tv<|Ob h λx46 hx46 h=>Jm1 (κ:=K136) (E:=(Ep.own E6 2)) 9 [13] R R R R R R R R R Y26 bK R R R R (f40.stp (T4 S48 S52 S59 S137) R R) f138.src (dz R) hx46 R λav ar w140 K141 S142 f143=>Tv<|Jd3 R U28 R Z26<|Ji1 (κ:=K141) 8 (off:=0) (vc:=[.slice av x46.length ar]) (cs':=[.slice av x46.length ar,.slice al s1.2.2.2.length ai]) R R R R R R R Z26 R R (f134.stp (S137.tr S142) R R) R R λw145 S146 f147=>Tv<|Jd<|Ja [2,1,2,1,1,2,1] R<|Jd3 R U28 R Z26<|Jb3 R I26 (f147.ld 1 R R)<|Jn 1 R<|Jn1 (κ:=K141) (E:=(Ep.own E6 2)) 14 [12] (parts:=[(0,.tmp 50)]) (cells:=[.slice aj s6.2.1.length ah]) (xs:=([s6.2.1]:List (List Int))) R R R R R R Y26 bK R R R R R R R R R R ⟨[.slice aj s6.2.1.length ah],[],Zl K141 w145 [12],Zl K141 w145 [],R,Zl.sp (l1:=[12]) (l2:=[]) R,Zl.sr (l1:=[12]) (l2:=[]),⟨_,_,R,(f61.stp (T3 S137 S142 S146) R R)⟩,R⟩ λaI aP w149 K150 S151 f152=>Tv<|Ob h λx52 hx52 h=>Jm1 (κ:=K150) (E:=(Ep.own E6 2)) 10 [14] R R R R R R R R R Y26 bK R R R R (f41.stp (T7 S48 S52 S59 S137 S142 S146 S151) R R) f152.src (dz R) hx52 R λay ax w154 K155 S156 f157=>Tv<|Jd3 R U28 R Z26<|Ji1 (κ:=K155) 8 (off:=1) (vc:=[.slice ay x52.length ax]) (cs':=[.slice av x46.length ar,.slice ay x52.length ax]) R R R R R R R Z26 R R (f147.stp (S151.tr S156) R R) R R λw159 S160 f161=>Tv<|Jo<|Jz<|Jp<|Jf3 R ?_
 have hw27:sh .i64 (v7+1)=v7+1:=wr1 hj27 (Jm2 hc27) hN27
 rw[hw27]
 have hc27:=Jm2 hc27
 cases h
 exact Jz1 λa ha=>⟨k,_,Ja3 _,⟨K155,v7+1,(s6.2.2.2.1,s6.2.2.2.2,x46,x52),av,ar,ay,ax,R,(T10 S39 S48 S52 S59 S137 S142 S146 S151 S156 S160).wk R,(f143.stp (T4 S146 S151 S156 S160) R R),(f157.stp S160 R R),(f62.stp (T6 S137 S142 S146 S151 S156 S160) R R),f161,by omega,by omega,hk45⟩,(ha.mm R)⟩
 rintro _ w30 ⟨K31,s3,ae,ac,af,ad,rfl,S32,f33,f34,f35,f36,rfl⟩
 have h:=yI hK28
 refine Jp<|Jq<|Jg3 [2,2,2,2,1,2] 3 R<|Ob h λq7 h hK165=>Ju1 [(3,2),(4,1),(5,2)] [] (λL w'=>∃κ',L=[(0,.pointer (some ⟨b0,0,none⟩)),(4,.pointer (some ⟨b4,0,none⟩)),(5,vi<|IntKind.i64.wrap (1+x12.1)),(6,.pointer (some ⟨b6,0,none⟩)),(59,.bool q7.1)]/\Stp [7,13] K31 w30 κ' w'/\Bc κ' w' 7 b0 142 [.slice ab p0.b.length aa,vi q7.2.1,vi q7.2.2]) tv ?_ ?_
 revert h
 cases ht170:decide (1<(IntKind.i64.wrap (1+x12.1)))
 refine JF λh=>Jn 1 R<|Jd1 R R R R<|Jn 1 R ?_
 cases h
 exact Jv1 _ tv ⟨K31,R,Jj3,f35⟩<|KM R
 refine JT λh=>Jn 1 R<|Ob h λx58 hx58 h=>Jh R R R C45 (c9 (κ:=λb=>mp [(7,2)] 0<|K31 b) (p0:=(⟨p0.b,s3.1,s3.2.1⟩:l1Cur)) (Jl2 (f9.stp (T4 S16 S22 S25 S32) R R) (mp [(7,2)] 0) R R) (f35.map (mp [(7,2)] 0) R R) hx58) ?_
 rintro _ w172 ⟨k173,rfl,e174,f175⟩
 obtain⟨K176,S177,m178⟩:=Ji e174 11 R
 refine Tv<|Jn 1 R ?_
 cases h
 exact Jv1 _ tv ⟨(λb=>ren [(13,7)]<|K176 b),R,(Jy2 (S177.wk R) [(13,7)] R),((f175.mx m178 R (R:11+2=13)).map (ren [(13,7)]) R R)⟩<|KM R
 rintro _ w166 _ ⟨K167,rfl,S168,f169⟩
 have h:=hK165
 refine Jd<|Ob h λq8 h hK181=>Jx1 (λL w'=>∃κ',L=[(0,.pointer (some ⟨b0,0,none⟩)),(4,.pointer (some ⟨b4,0,none⟩)),(6,.pointer (some ⟨b6,0,none⟩))]/\Stp [9,10,13,16] K167 w166 κ' w'/\Oc (Ep.own E6 2) 29 κ' w' 9 ae ac q8.1/\s3.2.2.1.length=q8.1.length/\Oc (Ep.own E6 2) 29 κ' w' 10 af ad q8.2/\s3.2.2.2.length=q8.2.length) ?_ ?_
 revert h
 cases ht189:q7.1
 refine JF λh=>Jy R<|Js ?_
 cases h
 exact Jw1 _ ⟨K167,R,Jj3,(f33.stp S168 R R),R,(f34.stp S168 R R),R⟩<|KM R
 refine JT λh=>Jx R<|Jq<|Js1 (κ:=K167) [0,8,9] (some 10) [(0,2),(2,2),(3,2),(4,2),(1,0),(5,0),(6,2),(7,0),(8,1),(9,2)] [(10,1)] (by kernel_rfl) (by kernel_rfl) λw191 S190=>Jd3 R U28 R Z26<|Jn 2 R<|Jd3 R U28 R Z26 ?_
 have f192:=f36.stp (S168.tr S190) R R
 refine Jg R (Jc2 I26 R R<|hvC (f192.ld 0 R R) R)<|Jg R (Jc2 I26 R R<|hvC (f192.ld 0 R R) R)<|Ob h λx66 hx66 h=>Jc3 R f33.rdc hx66 U26 Z29 ?_
 have f193:=f33.stp (S168.tr S190) R R
 obtain⟨ax66,ux66,f194,hl195⟩:=f193.rdc.gSl hx66
 refine Jg R (Jc2 I29 R R<|hvC hl195 R)<|Ob h λx68 hx68 h=>Jh R R R C56 (ck (κ:=Mk K167) (Ji3 f194) hx68) ?_
 rintro _ w196 ⟨k197,aQ,aL,rfl,e198,f199⟩
 obtain⟨K200,S201,m202⟩:=Ji e198 11 R
 refine⟨(S201.cl R),Ob h λx69 hx69 h=>Jc3 R f193.rdc hx69 U26 Z29<|Jt1<|Ob h λy39 hy39 h=>Jk1 (κ:=K200) (E:=(Ep.own E6 2)) 9 [13] R R R R R R R R Z29 R ⟨_,_,R,(f199.mx (bD _) m202 R (R:11+2=13))⟩ R R (f193.stp S201 R R) hy39 λw206 K207 S208 f209=>Tv<|?_⟩
 have hn210:s3.2.2.1.length=y39.length:=(Jt2 hy39).2.2.2.symm
 refine Jd<|Js1 (κ:=K207) [0,8,10] (some 10) [(0,2),(2,2),(3,2),(4,2),(1,0),(5,0),(6,2),(7,0),(8,1),(9,2)] [(10,1)] (by kernel_rfl) (by kernel_rfl) λw212 S211=>Jd3 R U28 R Z26<|Jn 2 R<|Jd3 R U28 R Z26 ?_
 have f213:=f192.stp (T3 S201 S208 S211) R R
 refine Jg R (Jc2 I26 R R<|hvC (f213.ld 1 R R) R)<|Jg R (Jc2 I26 R R<|hvC (f213.ld 1 R R) R)<|Ob h λx76 hx76 h=>Jc3 R f34.rdc hx76 U26 Z29 ?_
 have f214:=f34.stp (T5 S168 S190 S201 S208 S211) R R
 obtain⟨ax76,ux76,f215,hl216⟩:=f214.rdc.gSl hx76
 refine Jg R (Jc2 I29 R R<|hvC hl216 R)<|Ob h λx78 hx78 h=>Jh R R R C56 (ck (κ:=Mk K207) (Ji3 f215) hx78) ?_
 rintro _ w217 ⟨k218,aO,aK,rfl,e219,f220⟩
 obtain⟨K221,S222,m223⟩:=Ji e219 14 R
 refine⟨(S222.cl R),Ob h λx79 hx79 h=>Jc3 R f214.rdc hx79 U26 Z29<|Jt1<|Ob h λy41 hy41 h=>Jk1 (κ:=K221) (E:=(Ep.own E6 2)) 10 [16] R R R R R R R R Z29 R ⟨_,_,R,(f220.mx (bD _) m223 R (R:14+2=16))⟩ R R (f214.stp S222 R R) hy41 λw227 K228 S229 f230=>Tv<|?_⟩
 have hn231:s3.2.2.2.length=y41.length:=(Jt2 hy41).2.2.2.symm
 refine Jo ?_
 cases h
 exact Jw1 _ ⟨K228,R,(T6 S190 S201 S208 S211 S222 S229).wk R,(f209.stp (T3 S211 S222 S229) R R),hn210,f230,hn231⟩<|KM R
 rintro _ w182 ⟨K183,rfl,S184,f185,hn186,f187,hn188⟩
 have h:=hK181
 refine Jp<|Je [1,1] R<|Jl tv R R R R (Jd2 (cs:=[.slice ae s3.2.2.1.length ac,.slice af s3.2.2.2.length ad]) I28 Z28 R R R<|haE (f36.stp (S168.tr S184) R R).cells)<|Jj1 (κ:=K183) 4 (vc:=[.slice ae s3.2.2.1.length ac,.slice af s3.2.2.2.length ad]) R R R R R R R Z28 R R (f8.stp (T6 S16 S22 S25 S32 S168 S184) R R) R λw237 S238 f239=>Tv<|Jd<|Ju<|Ja2 (l:=[.cell 4 28]) V157 (bF R f239 I28 Z28 R R) R ?_
 cases h
 exact⟨(λb=>ren [(9,3),(10,4),(7,2)]<|K183 b),ae,ac,af,ad,(by simp only[hn186,hn188]),((hE.stp (T9 S3 S7 S16 S22 S25 S32 S168 S184 S238) R R).map (ren [(9,3),(10,4),(7,2)]) R R),((f185.stp S238 R R).map (ren [(9,3),(10,4),(7,2)]) R R),((f187.stp S238 R R).map (ren [(9,3),(10,4),(7,2)]) R R),((f169.stp (S184.tr S238) R R).map (ren [(9,3),(10,4),(7,2)]) R R)⟩
theorem lP {ac ad}{p0:l1Cur}{p1:Int}{b0}(g0_0:Rd (Rp.int .u8) κ w 0 ac ad p0.b) (gb0:Bc κ w 2 b0 142 [.slice ac p0.b.length ad,vi p0.i,vi p0.h]){r:(List Int)×Int×Int}(h:fF p0 p1=some r):Ret Tryz.prog 160 [.pointer (some ⟨b0,0,none⟩),vi p1] w (λv w'=>∃(κ':Col) (ra0:Option Addr) (ru0:Nat),v= .slice ra0 r.1.length ru0/\Ent κ w κ' w'/\Oc E6 2 κ' w' 3 ra0 ru0 r.1/\Bc κ' w' 2 b0 142 [.slice ac p0.b.length ad,vi r.2.1,vi r.2.2]):=by
 unfold fF at h
 refine Jk3 κ F160 R N160 R λhE=>Je3 R<|Je [1,2] R<|Jo1 (κ:=κ) (E:=E6) 3 R R R R R Y29 a8 R λa7 u7 w1 K2 S3 f4=>Tv<|Jb 1 R<|Jq<|Je3 R<|Ob h λ_ hr5 h=>?_
 have hN5:=mu hr5
 refine Ob h λq2 hq7 hK6=>?_
 clear h
 refine Jx1 (λL w'=>∃κ',∃s3:(List Int)×Int×Int,∃ai af,L=[(0,.pointer (some ⟨b0,0,none⟩)),(5,.slice ai s3.1.length af)]/\Stp [2,3,6] K2 w1 κ' w'/\Oc E6 2 κ' w' 3 ai af s3.1/\Bc κ' w' 2 b0 142 [.slice ac p0.b.length ad,vi s3.2.1,vi s3.2.2]/\q2=yk s3) ?_ ?_
 refine Jv<|Jy1 (λk L w'=>∃κ' v6,∃s1:(List Int)×Int×Int,∃aa ab,L=[(0,.pointer (some ⟨b0,0,none⟩)),(1,vi p1),(5,.slice aa s1.1.length ab),(6,vi v6)]/\Stp [2,3,6] K2 w1 κ' w'/\Oc E6 2 κ' w' 3 aa ab s1.1/\Bc κ' w' 2 b0 142 [.slice ac p0.b.length ad,vi s1.2.1,vi s1.2.2]/\0<=v6/\yn (p1-v6)=k/\cntM (eF p0) k v6 s1=some q2) ⟨_,_,⟨K2,0,((([]:List Int):(List Int)),p0.i,p0.h),a7,u7,R,Jj3,f4,(gb0.stp S3 R R),(by decide),(by simp),hq7⟩,(KM R)⟩ ?_
 rintro k _ w13 ⟨K14,v6,s1,aa,ab,rfl,S15,f16,f17,hj5,hJ5,h⟩
 rcases k with _ | k
 have hk19:=h;obtain⟨o5,h⟩:=ca (yk (yl s1):((List Int)×Int×Int)⊕(((List Int)×Int×Int)⊕((List Int)×Int×Int)))
 have hc5:decide (v6<p1)=false:=Jo2 (by omega)
 refine Jq<|Je3 R<|Jw2 R hc5<|Jc1<|Jt<|Jt ?_
 cases h
 have h:=hk19
 refine Jb1 ?_
 cases h
 exact Jw1 _ ⟨K14,(s1.1,s1.2.1,s1.2.2),aa,ab,R,S15.wk R,f16,f17,R⟩<|KM R
 obtain⟨o5,h,hk19⟩:=BI h;unfold eF at h
 have hc5:decide (v6<p1)=true:=Jn2 (by omega)
 refine Jq<|Je3 R<|Jv2 R hc5<|Js<|Jp<|Jq<|Jv<|Jg3 [2,1] 1 R<|Ob h λx14 hx14 h=>Jh R R R C45 (c9 (κ:=λb=>mp [(2,2)] 0<|K14 b) (p0:=(⟨p0.b,s1.2.1,s1.2.2⟩:l1Cur)) (Jl2 (g0_0.stp (S3.tr S15) R R) (mp [(2,2)] 0) R R) (f17.map (mp [(2,2)] 0) R R) hx14) ?_
 rintro _ w21 ⟨k22,rfl,e23,f24⟩
 obtain⟨K25,S26,m27⟩:=Ji e23 4 R
 refine Tv<|Jd<|Ob h λq4 h hK30=>Jx1 (λL w'=>∃κ' ah ae,L=[(0,.pointer (some ⟨b0,0,none⟩)),(1,vi p1),(5,.slice ah q4.length ae),(6,vi v6)]/\Stp [3] K25 w21 κ' w'/\Oc E6 2 κ' w' 3 ah ae q4) ?_ ?_
 revert h
 cases ht35:x14.1
 refine JF λh=>Jy R<|Js ?_
 cases h
 exact Jw1 _ ⟨K25,aa,ab,R,Jj3,(f16.stp S26 R R)⟩<|KM R
 refine JT λh=>Jx R<|Jh3 [2,2,1,1,2] 2 R<|Jn1 (κ:=K25) (E:=E6) 7 [] (parts:=[(0,.tmp 16)]) (cells:=[vi v6]) (xs:=([v6]:List Int)) R R R R R R Y29 a8 R R R R R R R R R R ⟨[vi v6],[],Zl K25 w21 [],Zl K25 w21 [],R,Zl.sp (l1:=[]) (l2:=[]) R,Zl.sr (l1:=[]) (l2:=[]),R,R⟩ λal am w36 K37 S38 f39=>Tv<|Ob h λx18 hx18 h=>Jm1 (κ:=K37) (E:=E6) 3 [] R R R R R R R R R Y29 a8 R R R R (f16.stp (S26.tr S38) R R) (Sl.srcP (bM _) f39.rdc) bH hx18 R λaj ak w41 K42 S43 f44=>Tv<|Jc 1 R ?_
 cases h
 exact Jw1 _ ⟨K42,aj,ak,R,(S38.tr S43).wk R,f44⟩<|KM R
 rintro _ w31 ⟨K32,ah,ae,rfl,S33,f34⟩
 have h:=hK30
 refine Jz<|Jp<|Jf3 R ?_
 have hw5:sh .i64 (v6+1)=v6+1:=wr1 hj5 (Jm2 hc5) hN5
 rw[hw5]
 have hc5:=Jm2 hc5
 cases h
 exact Jz1 λa ha=>⟨k,_,Ja3 _,⟨(λb=>ren [(6,2)]<|K32 b),v6+1,(q4,x14.2.1,x14.2.2),ah,ae,R,(Jy2 ((T3 S15 S26 S33).wk R) [(6,2)] R),(f34.map (ren [(6,2)]) R R),(((f24.mx m27 R (R:4+2=6)).stp S33 R R).map (ren [(6,2)]) R R),by omega,by omega,hk19⟩,(ha.mm R)⟩
 rintro _ w8 ⟨K9,s3,ai,af,rfl,S10,f11,f12,rfl⟩
 have h:=yI hK6
 refine Jp<|Je3 R<|Ju<|Ja2 (l:=[.tmp 4]) V160 (Jp2 R R) R ?_
 cases h
 exact⟨K9,ai,af,R,(hE.stp (S3.tr S10) R R),f11,f12⟩
theorem qi {aa ab}{p0:l1Cur}{p1:Int}{b0}(g0_0:Rd (Rp.int .u8) κ w 0 aa ab p0.b) (gb0:Bc κ w 2 b0 142 [.slice aa p0.b.length ab,vi p0.i,vi p0.h]){r:Int×Int×Int}(h:lb p0 p1=some r):Ret Tryz.prog 162 [.pointer (some ⟨b0,0,none⟩),vi p1] w (λv w'=>∃(κ':Col),v=vi r.1/\Ent κ w κ' w'/\Bc κ' w' 2 b0 142 [.slice aa p0.b.length ab,vi r.2.1,vi r.2.2]):=by
 unfold lb at h
 refine Jk3 κ F162 R N162 R λhE=>Je3 R<|Jq<|Jg3 [2,1] 1 R<|Ob h λx6 hx6 h=>Jh R R R C45 (c9 (κ:=λb=>mp [(2,2)] 0 (κ b)) (p0:=p0) (Jl2 g0_0 (mp [(2,2)] 0) R R) (gb0.map (mp [(2,2)] 0) R R) hx6) ?_
 rintro _ w1 ⟨k2,rfl,e3,f4⟩
 obtain⟨K5,S6,m7⟩:=Ji e3 3 R
 refine Tv<|?_
 have f9:=f4.mx m7 R (R:3+2=5)
 refine Jd ?_
 revert h
 cases ht10:x6.1
 refine JF λh=>Jy R<|Js<|Jp<|Jq<|Jg3 [2,1] 1 R<|Ob h λx18 hx18 h=>?_
 have f38:=g0_0.stp S6 R R
 refine Jh R R R C45 (c9 (κ:=λb=>mp [(5,2)] 0<|K5 b) (p0:=(⟨p0.b,x6.2.1,x6.2.2⟩:l1Cur)) (Jl2 f38 (mp [(5,2)] 0) R R) (f9.map (mp [(5,2)] 0) R R) hx18) ?_
 rintro _ w39 ⟨k40,rfl,e41,f42⟩
 obtain⟨K43,S44,m45⟩:=Ji e41 6 R
 refine Tv<|?_
 have f47:=f42.mx m45 R (R:6+2=8)
 refine Jd ?_
 revert h
 cases ht48:x18.1
 refine JF λh=>Jy R<|Js<|Jp<|Jg3 [2,2,2,1,2] 3 R<|Ob h λx27 hx27 h=>Jh R R R C105 (bS (κ:=λb=>mp [(8,2)] 0<|K43 b) (p0:=(⟨p0.b,x18.2.1,x18.2.2⟩:l1Cur)) (Jl2 (f38.stp S44 R R) (mp [(8,2)] 0) R R) (f47.map (mp [(8,2)] 0) R R) hx27) ?_
 rintro _ w69 ⟨k70,rfl,e71,f72⟩
 obtain⟨K73,S74,m75⟩:=Ji e71 9 R
 refine Tv<|Jb 1 R<|Ju<|Ja2 (l:=[.tmp 4]) V162 (Jp2 R R) R ?_
 cases h
 exact⟨(λb=>ren [(11,2)]<|K73 b),R,((hE.stp (T3 S6 S44 S74) R R).map (ren [(11,2)]) R R),((f72.mx m75 R (R:9+2=11)).map (ren [(11,2)]) R R)⟩
 refine JT λh=>Jx R<|Jg3 [2,2,1,2,1,2] 2 R<|Ob h λx21 hx21 h=>Jh R R R C110 (qk (κ:=Mk K43) hx21) ?_
 rintro _ w49 ⟨k50,rfl,e51⟩
 obtain⟨K52,S53,m54⟩:=Ji e51 9 R
 refine Tv<|Jn 1 R<|Ob h λx23 hx23 h=>Jh R R R C105 (bS (κ:=λb=>mp [(8,2)] 0<|K52 b) (p0:=(⟨p0.b,x18.2.1,x18.2.2⟩:l1Cur)) (Jl2 (f38.stp (S44.tr S53) R R) (mp [(8,2)] 0) R R) ((f47.stp S53 R R).map (mp [(8,2)] 0) R R) hx23) ?_
 rintro _ w58 ⟨k59,rfl,e60,f61⟩
 obtain⟨K62,S63,m64⟩:=Ji e60 11 R
 refine Tv<|Jb 1 R<|Ju<|Jw<|Ja2 (l:=[.tmp 4]) V162 (Jp2 R R) R ?_
 cases h
 exact⟨(λb=>ren [(13,2)]<|K62 b),R,((hE.stp (T4 S6 S44 S53 S63) R R).map (ren [(13,2)]) R R),((f61.mx m64 R (R:11+2=13)).map (ren [(13,2)]) R R)⟩
 refine JT λh=>Jx R<|Jg3 [2,2,2,2,1,1,2,1,2,1,2] 4 R<|Ob h λx11 hx11 h=>?_
 have f11:=g0_0.stp S6 R R
 refine Jh R R R C208 (tJ (κ:=λb=>mp [(5,2)] 0<|K5 b) (p0:=(⟨p0.b,x6.2.1,x6.2.2⟩:l1Cur)) (Jl2 f11 (mp [(5,2)] 0) R R) (f9.map (mp [(5,2)] 0) R R) hx11) ?_
 rintro _ w12 ⟨k13,rfl,e14,f15⟩
 obtain⟨K16,S17,m18⟩:=Ji e14 6 R
 refine Tv<|Jn1 (κ:=K16) (E:=E6) 9 [] (parts:=[(0,.const (vi (-1))),(1,.tmp 7),(2,.tmp 9),(3,.tmp 11)]) (cells:=[vi (-1),vi p1,vi (IntKind.i64.wrap<|p1+1),vi x11.1]) (xs:=([(-1),p1,(IntKind.i64.wrap<|p1+1),x11.1]:List Int)) R R R R R R Y29 a8 R R R R R R R R R R ⟨[vi (-1)],[vi p1,vi (IntKind.i64.wrap<|p1+1),vi x11.1],Zl K16 w12 [],Zl K16 w12 [],R,Zl.sp (l1:=[]) (l2:=[]) R,Zl.sr (l1:=[]) (l2:=[]),R,⟨[vi p1],[vi (IntKind.i64.wrap<|p1+1),vi x11.1],Zl K16 w12 [],Zl K16 w12 [],R,Zl.sp (l1:=[]) (l2:=[]) R,Zl.sr (l1:=[]) (l2:=[]),R,⟨[vi<|IntKind.i64.wrap<|p1+1],[vi x11.1],Zl K16 w12 [],Zl K16 w12 [],R,Zl.sp (l1:=[]) (l2:=[]) R,Zl.sr (l1:=[]) (l2:=[]),R,⟨[vi x11.1],[],Zl K16 w12 [],Zl K16 w12 [],R,Zl.sp (l1:=[]) (l2:=[]) R,Zl.sr (l1:=[]) (l2:=[]),R,R⟩⟩⟩⟩ λad ac w21 K22 S23 f24=>Tv<|Jn 1 R<|Ob h λx14 hx14 h=>Jh R R R C105 (bS (κ:=λb=>mp [(8,2)] 0<|K22 b) (p0:=(⟨p0.b,x11.2.1,x11.2.2⟩:l1Cur)) (Jl2 (f11.stp (S17.tr S23) R R) (mp [(8,2)] 0) R R) (((f15.mx m18 R (R:6+2=8)).stp S23 R R).map (mp [(8,2)] 0) R R) hx14) ?_
 rintro _ w27 ⟨k28,rfl,e29,f30⟩
 obtain⟨K31,S32,m33⟩:=Ji e29 10 R
 refine Tv<|Ob h λx15 hx15 h=>Jc3 R f24.rdc hx15 U29 Z2<|Jb3 R I2 ((f24.stp S32 R R).rdc.gInt hx15)<|Jb 1 R<|Ju<|Jw<|Ja2 (l:=[.tmp 4]) V162 (Jp2 R R) R ?_
 cases h
 exact⟨(λb=>ren [(12,2)]<|K31 b),R,((hE.stp (T4 S6 S17 S23 S32) R R).map (ren [(12,2)]) R R),((f30.mx m33 R (R:10+2=12)).map (ren [(12,2)]) R R)⟩
theorem mZ {p0:Sig}{ac ab ad aa}{p1:Clause}(g1_1:Rd (Rp.int .i64) κ w 0 ac ab p1.A) (g1_2:Rd (Rp.int .i64) κ w 0 ad aa p1.B){r:Bool}(h:iv p0 p1=some r):Ret Tryz.prog 163 [.agg #[vi p0.In,vi p0.Out],.agg #[vi p1.Kind,.slice ac p1.A.length ab,.slice ad p1.B.length aa]] w (Pvb κ w r):=by
 unfold iv at h
 refine Jk3 κ F163 R N163 R λhE=>Je [1,1,2] R<|Jf1 (κ:=κ) 2 R R R R R R R λb2 w1 K2 S3 f4=>Tv<|Jf1 (κ:=K2) 3 R R R R R R R λb3 w5 K6 S7 f8=>Tv<|Jb 1 R<|Jq<|Je [1,1,2,2,2,1,1,2,2] R ?_
 have f9:=f4.stp S7 R R
 refine Jl tv R R R R (Jd2 (cs:=[vi p0.In,vi p0.Out]) I25 Z25 R R R<|haE f9.cells)<|Ob h λx7 hx7 h=>Jh R R R C102 (eZ (κ:=Mk K6) (p0:=p0) hx7) ?_
 rintro _ w10 ⟨k11,rfl,e12⟩
 obtain⟨K13,S14,m15⟩:=Ji e12 4 R
 refine Tv<|Jn 2 R<|Ob h λp14 h hK17=>Ju1 [(4,2),(5,1),(6,1),(7,2),(8,2)] [] (λL w'=>L=[(2,.pointer (some ⟨b2,0,none⟩)),(3,.pointer (some ⟨b3,0,none⟩)),(14,.bool p14)]/\∃κ',Stp [] K13 w10 κ' w') tv ?_ ?_
 revert h
 cases ht18:(!x7)
 refine JF λh=>Jd3 R U119 R Z2<|Jb3 R I2 ((f8.stp S14 R R).ld 0 R R)<|Ob h λx12 hx12 h=>Jh R R R C57 (cu (κ:=Mk K13) hx12) ?_
 rintro _ w20 ⟨k21,rfl,e22⟩
 obtain⟨K23,S24,m25⟩:=Ji e22 6 R
 refine Tv<|Jn 2 R ?_
 cases h
 exact Jv1 _ tv ⟨R,_,S24.wk R⟩<|KM R
 refine JT λh=>Jn 1 R<|Jd1 R R R R<|Jd1 R R R R<|Jn 2 R ?_
 cases h
 exact Jv1 _ tv ⟨R,_,Jj3⟩<|KM R
 rintro _ w27 _ ⟨rfl,K28,S29⟩
 have h:=hK17
 refine Jd ?_
 revert h
 cases ht30:p14
 refine JF λh=>Jy R<|Js<|Jp<|Je [1,1,2] R<|Jl tv R R R R (Jd2 (cs:=[vi p0.In,vi p0.Out]) I25 Z25 R R R<|haE (f9.stp (S14.tr S29) R R).cells)<|Ob h λx16 hx16 h=>Jh R R R C58 (dr (κ:=Mk K28) (p0:=p0) hx16) ?_
 rintro _ w33 ⟨k34,rfl,e35⟩
 obtain⟨K36,S37,m38⟩:=Ji e35 6 R
 refine Tv<|Jb 1 R<|Je [2,1,2,1,2,2,1,2,1,2,2,2,1,1,2,2,1,2,2,2,2,2] R<|Jd3 R U119 R Z29 ?_
 have f40:=f8.stp (T3 S14 S29 S37) R R
 refine Jb3 R I29 (f40.ld 1 R R)<|Jn 1 R<|Ob h λx20 hx20 h=>Jh R R R C169 (lF (κ:=Mk K36) (Ji3<|g1_1.stp (T5 S3 S7 S14 S29 S37) R R) hx20) ?_
 rintro _ w42 ⟨k43,rfl,e44⟩
 obtain⟨K45,S46,m47⟩:=Ji e44 8 R
 refine Tv<|Jn 1 R<|Ob h λp26 h hK49=>Ju1 [(5,2),(6,1),(7,2),(8,1),(9,2)] [(10,2),(11,2),(12,1),(13,1),(14,2),(15,2),(16,1),(17,2),(18,2),(19,2),(20,2),(21,2)] (λL w'=>L=[(3,.pointer (some ⟨b3,0,none⟩)),(26,.bool p26)]/\∃κ',Stp [] K45 w42 κ' w') tv ?_ ?_
 revert h
 cases ht50:x20
 refine JF λh=>Jn 1 R<|Jd1 R R R R<|Jn 1 R<|Jd1 R R R R<|Jn 1 R ?_
 cases h
 exact Jv1 _ tv ⟨R,_,Jj3⟩<|KM R
 refine JT λh=>Jd3 R U119 R Z29<|Jb3 R I29 ((f40.stp S46 R R).ld 2 R R)<|Jn 1 R<|Ob h λx25 hx25 h=>Jh R R R C169 (lF (κ:=Mk K45) (Ji3<|g1_2.stp (T6 S3 S7 S14 S29 S37 S46) R R) hx25) ?_
 rintro _ w53 ⟨k54,rfl,e55⟩
 obtain⟨K56,S57,m58⟩:=Ji e55 10 R
 refine Tv<|Jn 1 R ?_
 cases h
 exact Jv1 _ tv ⟨R,_,S57.wk R⟩<|KM R
 rintro _ w60 _ ⟨rfl,K61,S62⟩
 have h:=hK49
 refine Jn 1 R<|Ob h λp37 h hK63=>Ju1 [(11,2),(12,1),(13,1),(14,2),(15,2),(16,1),(17,2),(18,2),(19,2),(20,2)] [(21,2)] (λL w'=>L=[(37,.bool p37)]/\∃κ',Stp [] K61 w60 κ' w') tv ?_ ?_
 revert h
 cases ht64:p26
 refine JF λh=>Jn 1 R<|Jd1 R R R R<|Jd1 R R R R<|Jn 2 R<|Jd1 R R R R<|Jn 4 R ?_
 cases h
 exact Jv1 _ tv ⟨R,_,Jj3⟩<|KM R
 refine JT λh=>Jd3 R U119 R Z2 ?_
 have f65:=f40.stp (S46.tr S62) R R
 refine Jb3 R I2 (f65.ld 0 R R)<|Ob h λx30 hx30 h=>Jh R R R C161 (n9 (κ:=Mk K61) hx30) ?_
 rintro _ w66 ⟨k67,rfl,e68⟩
 obtain⟨K69,S70,m71⟩:=Ji e68 10 R
 refine Tv<|Jn 1 R<|Ob h λp36 h hK73=>Ju1 [(15,2),(16,1),(17,2),(18,2),(19,2)] [(20,2)] (λL w'=>L=[(27,.bool true),(36,.bool p36)]/\∃κ',Stp [] K69 w66 κ' w') tv ?_ ?_
 revert h
 cases ht74:x30
 refine JF λh=>Jd3 R U119 R Z29<|Jb3 R I29 ((f65.stp S70 R R).ld 2 R R)<|Jn3 R U29 R R<|Jn 2 R ?_
 cases h
 exact Jv1 _ tv ⟨R,_,Jj3⟩<|KM R
 refine JT λh=>Jn 1 R<|Jd1 R R R R<|Jn 3 R ?_
 cases h
 exact Jv1 _ tv ⟨R,_,Jj3⟩<|KM R
 rintro _ w76 _ ⟨rfl,K77,S78⟩
 have h:=hK73
 refine Jn 1 R ?_
 cases h
 exact Jv1 _ tv ⟨R,_,(S70.tr S78).wk R⟩<|KM R
 rintro _ w79 _ ⟨rfl,K80,S81⟩
 have h:=hK63
 refine Jb 1 R<|Ju<|Ja2 (l:=[.tmp 4]) V163 (Jp2 R R) R ?_
 cases h
 exact⟨K80,R,(hE.stp (T8 S3 S7 S14 S29 S37 S46 S62 S81) R R)⟩
 refine JT λh=>Jx R<|Je3 R<|Ju<|Jw<|Ja2 (l:=[.tmp 4]) V163 (Jp2 R R) R ?_
 cases h
 exact⟨K28,R,(hE.stp (T4 S3 S7 S14 S29) R R)⟩
theorem pv {a0 u0}{p0:(List Int)}{p1:Int}(g0:Rd (Rp.int .i64) κ w 0 a0 u0 p0){r:Bool}(h:mQ p0 p1=some r):Ret Tryz.prog 170 [.slice a0 p0.length u0,vi p1] w (Pvb κ w r):=by
 unfold mQ at h
 refine Jk3 κ F170 R N170 R λhE=>Je3 R<|Jg3 [2,1,2,2,2,1,2,2] 1 R<|Ob h λx6 hx6 h=>Jh R R R C57 (cu (κ:=Mk κ) hx6) ?_
 rintro _ w1 ⟨k2,rfl,e3⟩
 obtain⟨K4,S5,m6⟩:=Ji e3 2 R
 refine Tv<|Jn 1 R<|Ob h λp11 h hK8=>Ju1 [(3,2),(4,2),(5,1),(6,2)] [(7,2)] (λL w'=>L=[(4,.bool false),(11,.bool p11)]/\∃κ',Stp [] K4 w1 κ' w') tv ?_ ?_
 revert h
 cases ht9:x6
 refine JF λh=>Jn 2 R<|Jd1 R R R R<|Jn 1 R ?_
 cases h
 exact Jv1 _ tv ⟨R,_,Jj3⟩<|KM R
 refine JT λh=>Jn 2 R<|Ob h λx10 hx10 h=>Jh R R R C169 (lF (κ:=Mk K4) (Ji3<|g0.stp S5 R R) hx10) ?_
 rintro _ w11 ⟨k12,rfl,e13⟩
 obtain⟨K14,S15,m16⟩:=Ji e13 4 R
 refine Tv<|Jn 1 R ?_
 cases h
 exact Jv1 _ tv ⟨R,_,S15.wk R⟩<|KM R
 rintro _ w18 _ ⟨rfl,K19,S20⟩
 have h:=hK8
 refine Jb 1 R<|Ju<|Ja2 (l:=[.tmp 4]) V170 (Jp2 R R) R ?_
 cases h
 exact⟨K19,R,(hE.stp (S5.tr S20) R R)⟩
theorem qB {p0:Sig}{af ah ai ae}{p1:Det}{p2:Int}{p3:Int}(g1_0:Rd (Rp.sl (Rp.int .i64)) κ w 0 af ah p1.Next) (g1_1:Rd Pair.rp κ w 0 ai ae p1.Pairs){r:(List Int)}(h:jB p0 p1 p2 p3=some r):Ret Tryz.prog 118 [.agg #[vi p0.In,vi p0.Out],.agg #[.slice af p1.Next.length ah,.slice ai p1.Pairs.length ae],vi p2,vi p3] w (λv w'=>∃(κ':Col) (ra0:Option Addr) (ru0:Nat),v= .slice ra0 r.length ru0/\Ent κ w κ' w'/\Rd (Rp.int .i64) κ' w' 0 ra0 ru0 r):=by
 unfold jB at h
 refine Jk3 κ F118 R N118 R λhE=>Je [1,1,2] R<|Jf1 (κ:=κ) 2 R R R R R R R λb4 w1 K2 S3 f4=>Tv<|Jf1 (κ:=K2) 3 R R R R R R R λb5 w5 K6 S7 f8=>Tv<|Jb 1 R<|Je [1,2] R<|Jo1 (κ:=K6) (E:=E6) 4 R R R R R Y29 a8 R λaj ak w9 K10 S11 f12=>Tv<|Jb 1 R<|Jq<|Je3 R<|Ob h λq2 hq15 hK14=>?_
 clear h
 obtain⟨K16,S17,z18⟩:=eR K10 w9 4
 refine Jx1 (λL w'=>∃κ',∃s3:(List Int)×Int,∃ad ac,L=[(9,.slice ad s3.1.length ac)]/\Stp [] K16 w9 κ' w'/\Rd (Rp.int .i64) κ' w' 0 ad ac s3.1/\q2=yk s3) ?_ ?_
 refine Jv<|Jy1 (λk L w'=>∃κ',∃s1:(List Int)×Int,∃aa ab,L=[(2,vi p2),(3,vi p3),(4,.pointer (some ⟨b4,0,none⟩)),(5,.pointer (some ⟨b5,0,none⟩)),(9,.slice aa s1.1.length ab),(10,vi s1.2)]/\Stp [] K16 w9 κ' w'/\Rd (Rp.int .i64) κ' w' 0 aa ab s1.1/\bI (fI p0 p1 p2 p3) k s1=some q2) ⟨_,_,⟨K16,((([]:List Int):(List Int)),(0:Int)),aj,ak,R,Jj3,(Sl.st z18 f12.rdc),hq15⟩,(KM R)⟩ ?_
 rintro k _ w24 ⟨K25,s1,aa,ab,rfl,S26,f27,h⟩
 rcases k with _ | k
 cases h
 obtain⟨o13,h,hk28⟩:=BI h;unfold fI at h
 refine Jq<|Jg3 [2,2,1,1,2] 1 R<|Jd3 R U25 R Z2 ?_
 have f29:=f4.stp (T4 S7 S11 S17 S26) R R
 refine Jb3 R I2 (f29.ld 1 R R)<|Ob h λx15 hx15 h=>Jh R R R C59 (cv (κ:=Mk K25) hx15) ?_
 rintro _ w30 ⟨k31,rfl,e32⟩
 obtain⟨K33,S34,m35⟩:=Ji e32 5 R
 refine Tv<|Jb 1 R ?_
 revert h
 cases ht37:decide (s1.2<x15)
 refine JF λh=>Jy R<|Jc1<|Jt<|Jt ?_
 cases h
 have h:=hk28
 refine Jb1 ?_
 cases h
 exact Jw1 _ ⟨K33,(s1.1,s1.2),aa,ab,R,(S26.tr S34).wk R,(f27.stp S34 R R),R⟩<|KM R
 refine JT λh=>Jx R<|Js<|Jp<|Jq<|Jv<|Js1 (κ:=K33) [0,2,3] none [(0,2),(1,2),(3,2),(7,2),(8,2),(2,0),(4,2),(5,0),(6,0),(9,1),(10,2),(11,0),(12,1),(13,2)] [] (by kernel_rfl) (by kernel_rfl) λw39 S38=>Jn 1 R<|Jd3 R U100 R Z26<|Jn 3 R<|Jg R (Jc2 I26 R R<|hvC ((f8.stp (T5 S11 S17 S26 S34 S38) R R).ld 0 R R) R)<|Ob h λx23 hx23 h=>Jc3 R g1_0 hx23 U26 Z29 ?_
 obtain⟨ax23,ux23,f42,hl43⟩:=(g1_0.stp (T7 S3 S7 S11 S17 S26 S34 S38) R R).gSl hx23
 refine Jg R (Jc2 I29 R R<|hvC hl43 R)<|Jg R (Jd2 (cs:=[vi p0.In,vi p0.Out]) I25 Z25 R R R<|haC (f29.stp (S34.tr S38) R R).cells R)<|Ob h λx28 hx28 h=>Jh R R R C55 (iN (κ:=Mk K33) (p0:=p0) hx28) ?_
 rintro _ w45 ⟨k46,rfl,e47⟩
 obtain⟨K48,S49,m50⟩:=Ji e47 7 R
 refine⟨(S49.cl R),Ob h λx29 hx29 h=>Jc3 R f42 hx29 U29 Z2<|Jg R (Jc2 I2 R R<|hvC (f42.gInt hx29) R)<|Ob h λx31 hx31 h=>Jh R R R C168 (si (κ:=λb=>mp [] 1<|K48 b) (Jl2 (f27.stp (T3 S34 S38 S49) R R) (mp [] 1) R R) hx31) ?_⟩
 rintro _ w53 ⟨k54,am,al,rfl,e55,f56⟩
 obtain⟨K57,S58,m59,z60⟩:=Jj e55 9 R
 refine⟨((S49.tr S58).cl R),Jn 1 R<|Jt1<|Jo<|Jz<|Jp<|Jf3 R ?_⟩
 cases h
 exact Jz1 λa ha=>⟨k,_,Ja3 _,⟨K57,(x31,((IntKind.i64.wrap<|s1.2+1):Int)),am,al,R,(T5 S26 S34 S38 S49 S58).wk R,(f56.mx z60),hk28⟩,(ha.mm R)⟩
 rintro _ w20 ⟨K21,s3,ad,ac,rfl,S22,f23,rfl⟩
 have h:=yI hK14
 refine Jp<|Je3 R<|Ju<|Ja2 (l:=[.tmp 8]) V118 (Jp2 R R) R ?_
 cases h
 exact⟨K21,ad,ac,R,(hE.stp (T5 S3 S7 S11 S17 S22) R R),f23⟩
theorem n7 {aa ac ad ab}{p0:Arena}(g0_0:Rd (Rp.int .i64) κ w 0 aa ac p0.Owner) (g0_1:Rd (Rp.sl (Rp.int .i64)) κ w 0 ad ab p0.Next){r:Bool}(h:jw p0=some r):Ret Tryz.prog 119 [.agg #[.slice aa p0.Owner.length ac,.slice ad p0.Next.length ab]] w (Pvb κ w r):=by
 unfold jw at h
 refine Jk3 κ F119 R N119 R λhE=>Je [1,2] R<|Jf1 (κ:=κ) 2 R R R R R R R λb1 w1 K2 S3 f4=>Tv<|Jb 1 R<|Je [2,1,2,2] R<|Jd3 R U104 R Z29<|Jb3 R I29 (f4.ld 0 R R)<|Jn3 R U29 R R<|Jb 1 R<|Jq<|Jg3 [2,1,2,2,2,1,2,2,1,2,2,2] 1 R<|Ob h λx9 hx9 h=>Jh R R R C57 (cu (κ:=Mk K2) hx9) ?_
 rintro _ w5 ⟨k6,rfl,e7⟩
 obtain⟨K8,S9,m10⟩:=Ji e7 3 R
 refine Tv<|Jn 2 R<|Ob h λp19 h hK12=>Ju1 [(4,2),(5,1),(6,2),(7,2),(8,1),(9,2),(10,2),(11,2)] [] (λL w'=>L=[(1,.pointer (some ⟨b1,0,none⟩)),(3,vi (p0.Owner.length:Int)),(19,.bool p19)]/\∃κ',Stp [] K8 w5 κ' w') tv ?_ ?_
 revert h
 cases ht13:(!x9)
 refine JF λh=>Jd3 R U104 R Z26 ?_
 have f14:=f4.stp S9 R R
 refine Jb3 R I26 (f14.ld 1 R R)<|Jn3 R U26 R R<|Jd3 R U104 R Z29<|Jb3 R I29 (f14.ld 0 R R)<|Jn3 R U29 R R<|Jn 2 R ?_
 cases h
 exact Jv1 _ tv ⟨R,_,Jj3⟩<|KM R
 refine JT λh=>Jn 1 R<|Jd1 R R R R<|Jn 2 R<|Jd1 R R R R<|Jn 3 R ?_
 cases h
 exact Jv1 _ tv ⟨R,_,Jj3⟩<|KM R
 rintro _ w15 _ ⟨rfl,K16,S17⟩
 have h:=hK12
 refine Jd ?_
 revert h
 cases ht18:p19
 refine JF λh=>Jy R<|Js<|Jp<|Jq<|Je3 R ?_
 have hN20:(p0.Owner.length:Int)<=9223372036854775807:=g0_0.len_le
 refine Ob h λq2 hq22 hK21=>?_
 clear h
 refine Jx1 (λL w'=>∃κ',L=[]/\Stp [] K16 w15 κ' w'/\q2=yk ()) ?_ ?_
 refine Jv<|Jy1 (λk L w'=>∃κ' v4,L=[(1,.pointer (some ⟨b1,0,none⟩)),(3,vi (p0.Owner.length:Int)),(4,vi v4)]/\Stp [] K16 w15 κ' w'/\0<=v4/\yn ((p0.Owner.length:Int)-v4)=k/\cntM (hH p0) k v4 ()=some q2) ⟨_,_,⟨K16,0,R,Jj3,(by decide),(by simp),hq22⟩,(KM R)⟩ ?_
 rintro k _ w26 ⟨K27,v4,rfl,S28,hj20,hJ20,h⟩
 rcases k with _ | k
 have hk29:=h;obtain⟨o20,h⟩:=ca (yk (yl ()):Bool⊕((Unit)⊕(Unit)))
 have hc20:decide (v4<(p0.Owner.length:Int))=false:=Jo2 (by omega)
 refine Jq<|Jg3 [2,2,1,2,2] 1 R<|Jd3 R U104 R Z29<|Jb3 R I29 ((f4.stp (T3 S9 S17 S28) R R).ld 0 R R)<|Jn3 R U29 R R<|Jb 1 R<|Jw2 R hc20<|Jc1<|Jt<|Jt ?_
 cases h
 have h:=hk29
 refine Jb1 ?_
 cases h
 exact Jw1 _ ⟨K27,R,S28.wk R,R⟩ KN
 obtain⟨o20,h,hk29⟩:=BI h;unfold hH at h
 have hc20:decide (v4<(p0.Owner.length:Int))=true:=Jn2 (by omega)
 refine Jq<|Jg3 [2,2,1,2,2] 1 R<|Jd3 R U104 R Z29 ?_
 have f31:=f4.stp (T3 S9 S17 S28) R R
 refine Jb3 R I29 (f31.ld 0 R R)<|Jn3 R U29 R R<|Jb 1 R<|Jv2 R hc20<|Js<|Jp<|Jq<|Jv<|Je [2,1,2,2,1,1,2,2,2,1,2,2,1,2,2,2,2,2,1,2,2,1,2,2,2,2,2,1,2,2,1,2,1,2,2] R<|Jd3 R U104 R Z29<|Jb3 R I29 (f31.ld 0 R R)<|Jn 1 R<|Ob h λx30 hx30 h=>Jc3 R g0_0 hx30 U29 Z2<|Jb3 R I2 ((g0_0.stp (T4 S3 S9 S17 S28) R R).gInt hx30)<|Ob h λx32 hx32 h=>Jh R R R C57 (cu (κ:=Mk K27) hx32) ?_
 rintro _ w33 ⟨k34,rfl,e35⟩
 obtain⟨K36,S37,m38⟩:=Ji e35 5 R
 refine Tv<|Jn 2 R<|Ob h λp42 h hK40=>Ju1 [(8,2),(9,1),(10,2),(11,2),(12,1),(13,2),(14,2),(15,2)] [(16,2),(17,2),(18,1),(19,2),(20,2),(21,1),(22,2),(23,2),(24,2),(25,2),(26,2),(27,1),(28,2),(29,2),(30,1),(31,2),(32,1),(33,2),(34,2)] (λL w'=>L=[(1,.pointer (some ⟨b1,0,none⟩)),(3,vi (p0.Owner.length:Int)),(4,vi v4),(42,.bool p42)]/\∃κ',Stp [] K36 w33 κ' w') tv ?_ ?_
 revert h
 cases ht41:(!x32)
 refine JF λh=>Jd3 R U104 R Z26<|Jb3 R I26 ((f31.stp S37 R R).ld 1 R R)<|Jn 1 R<|Ob h λx38 hx38 h=>Jc3 R g0_1 hx38 U26 Z29 ?_
 obtain⟨ax38,ux38,f44,hl45⟩:=(g0_1.stp (T5 S3 S9 S17 S28 S37) R R).gSl hx38
 refine Jb3 R I29 hl45<|Jn3 R U29 R R<|Jn 2 R ?_
 cases h
 exact Jv1 _ tv ⟨R,_,Jj3⟩<|KM R
 refine JT λh=>Jn 1 R<|Jd1 R R R R<|Jn 2 R<|Jd1 R R R R<|Jn 3 R ?_
 cases h
 exact Jv1 _ tv ⟨R,_,Jj3⟩<|KM R
 rintro _ w46 _ ⟨rfl,K47,S48⟩
 have h:=hK40
 refine Jn 1 R<|Ob h λp51 h hK49=>Ju1 [(17,2),(18,1),(19,2),(20,2),(21,1),(22,2),(23,2),(24,2)] [(25,2),(26,2),(27,1),(28,2),(29,2),(30,1),(31,2),(32,1),(33,2),(34,2)] (λL w'=>L=[(1,.pointer (some ⟨b1,0,none⟩)),(3,vi (p0.Owner.length:Int)),(4,vi v4),(51,.bool p51)]/\∃κ',Stp [] K47 w46 κ' w') tv ?_ ?_
 revert h
 cases ht50:p42
 refine JF λh=>Jd3 R U104 R Z26<|Jb3 R I26 ((f31.stp (S37.tr S48) R R).ld 1 R R)<|Jn 1 R<|Ob h λx47 hx47 h=>Jc3 R g0_1 hx47 U26 Z29 ?_
 obtain⟨ax47,ux47,f53,hl54⟩:=(g0_1.stp (T6 S3 S9 S17 S28 S37 S48) R R).gSl hx47
 refine Jb3 R I29 hl54<|Jn3 R U29 R R<|Jn 2 R ?_
 cases h
 exact Jv1 _ tv ⟨R,_,Jj3⟩<|KM R
 refine JT λh=>Jn 1 R<|Jd1 R R R R<|Jn 2 R<|Jd1 R R R R<|Jn 3 R ?_
 cases h
 exact Jv1 _ tv ⟨R,_,Jj3⟩<|KM R
 rintro _ w55 _ ⟨rfl,K56,S57⟩
 have h:=hK49
 refine Jn 1 R<|Ob h λp61 h hK58=>Ju1 [(26,2),(27,1),(28,2),(29,2),(30,1),(31,2),(32,1),(33,2),(34,2)] [] (λL w'=>L=[(1,.pointer (some ⟨b1,0,none⟩)),(3,vi (p0.Owner.length:Int)),(4,vi v4),(61,.bool p61)]/\∃κ',Stp [] K56 w55 κ' w') tv ?_ ?_
 revert h
 cases ht59:p51
 refine JF λh=>Jd3 R U104 R Z26<|Jb3 R I26 ((f31.stp (T3 S37 S48 S57) R R).ld 1 R R)<|Jn 1 R<|Ob h λx56 hx56 h=>Jc3 R g0_1 hx56 U26 Z29 ?_
 obtain⟨ax56,ux56,f62,hl63⟩:=(g0_1.stp (T7 S3 S9 S17 S28 S37 S48 S57) R R).gSl hx56
 refine Jb3 R I29 hl63<|Jn 1 R<|Ob h λx59 hx59 h=>Jh R R R C169 (lF (κ:=Mk K56) (Ji3 f62) hx59) ?_
 rintro _ w64 ⟨k65,rfl,e66⟩
 obtain⟨K67,S68,m69⟩:=Ji e66 7 R
 refine Tv<|Jn 2 R ?_
 cases h
 exact Jv1 _ tv ⟨R,_,S68.wk R⟩<|KM R
 refine JT λh=>Jn 1 R<|Jd1 R R R R<|Jn 2 R<|Jd1 R R R R<|Jn 1 R<|Jd1 R R R R<|Jn 2 R ?_
 cases h
 exact Jv1 _ tv ⟨R,_,Jj3⟩<|KM R
 rintro _ w71 _ ⟨rfl,K72,S73⟩
 have h:=hK58
 refine Jd ?_
 revert h
 cases ht74:p61
 refine JF λh=>Jy R<|Js<|Jz<|Jp<|Jf3 R ?_
 have hw20:sh .i64 (v4+1)=v4+1:=wr1 hj20 (Jm2 hc20) hN20
 rw[hw20]
 have hc20:=Jm2 hc20
 cases h
 exact Jz1 λa ha=>⟨k,_,Ja3 _,⟨K72,v4+1,R,(T5 S28 S37 S48 S57 S73).wk R,by omega,by omega,hk29⟩,(ha.mm R)⟩
 refine JT λh=>Jx R<|Je3 R<|Ju<|Ja1<|Jw<|Jw ?_
 cases h
 obtain rfl:=Option.some.inj hk29
 have h:=yL hK21
 refine Ja1<|Jq2<|Jw<|Ja2 (l:=[.tmp 2]) V119 (Jp2 R R) R ?_
 cases h
 exact⟨K72,R,(hE.stp (T8 S3 S9 S17 S28 S37 S48 S57 S73) R R)⟩
 rintro _ w23 ⟨K24,rfl,S25,rfl⟩
 have h:=yI hK21
 refine Jp<|Je3 R<|Ju<|Ja2 (l:=[.tmp 2]) V119 (Jp2 R R) R ?_
 cases h
 exact⟨K24,R,(hE.stp (T4 S3 S9 S17 S25) R R)⟩
 refine JT λh=>Jx R<|Je3 R<|Ju<|Jw<|Ja2 (l:=[.tmp 2]) V119 (Jp2 R R) R ?_
 cases h
 exact⟨K16,R,(hE.stp (T3 S3 S9 S17) R R)⟩
theorem pM (n:Nat):∀{w:World}{κ:Col}{af ae ah al aj ai ak ad ac am}{p0:l7Game}{a1 u1}{p1:(List Bool)}(g0_0:Rd (Rp.int .i64) κ w 0 af ae p0.owner) (g0_1:Rd (Rp.int .i64) κ w 0 ah al p0.prio) (g0_2:Rd (Rp.sl (Rp.int .i64)) κ w 0 aj ai p0.next) (g0_3:Rd (Rp.sl (Rp.int .i64)) κ w 0 ak ad p0.prev) (g0_4:Rd (Rp.int .i64) κ w 0 ac am p0.pick) (g1:Rd Rp.bool κ w 0 a1 u1 p1){r:(List Bool)}(h:kj n p0 p1=some r),Ret Tryz.prog 213 [.agg #[.slice af p0.owner.length ae,.slice ah p0.prio.length al,.slice aj p0.next.length ai,.slice ak p0.prev.length ad,.slice ac p0.pick.length am],.slice a1 p1.length u1] w (Pvs Ep.bool 4 κ w r):=by
 induction n with
 | zero=>
  intro w κ af ae ah al aj ai ak ad ac am p0 a1 u1 p1 g0_0 g0_1 g0_2 g0_3 g0_4 g1 r h
  cases h
 | succ n ih=>
  intro w κ af ae ah al aj ai ak ad ac am p0 a1 u1 p1 g0_0 g0_1 g0_2 g0_3 g0_4 g1 r h
  have h:iF (kj n) p0 p1=some r:=h
  unfold iF at h
  refine Jk3 κ F213 R N213 R λhE=>Je [1,2] R<|Jf1 (κ:=κ) 2 R R R R R R R λb2 w1 K2 S3 f4=>Tv<|Jb 1 R<|Je [1,2,1,2] R<|Jl tv R R R R (Jd2 (cs:=[.slice af p0.owner.length ae,.slice ah p0.prio.length al,.slice aj p0.next.length ai,.slice ak p0.prev.length ad,.slice ac p0.pick.length am]) I191 Z191 R R R<|haE f4.cells)<|Jn 1 R<|Ob h λx21 hx21 h=>?_
  have f5:=g0_0.stp S3 R R
  have f6:=g0_1.stp S3 R R
  have f7:=g0_2.stp S3 R R
  have f8:=g0_3.stp S3 R R
  have f9:=g0_4.stp S3 R R
  have f10:=g1.stp S3 R R
  refine Jh R R R C240 (tI (κ:=Mk K2) (p0:=p0) (Ji3 f5) (Ji3 f6) (Ji3 f7) (Ji3 f8) (Ji3 f9) (Ji3 f10) hx21) ?_
  rintro _ w11 ⟨k12,rfl,e13⟩
  obtain⟨K14,S15,m16⟩:=Ji e13 3 R
  refine Tv<|Jb 1 R<|Jg3 [2,2,1,2] 1 R<|Jn3 R U193 R R<|Ob h λx24 hx24 h=>Jl1 (κ:=K14) (E:=Ep.bool) (z:=(false:Bool)) 5 R R R R R R R Y193 iG R R R R R (λ_ _ _=>R) (Ju2 hx24) λaa ab w18 K19 S20 f21=>Tv<|Jb 1 R<|Jq<|Je3 R ?_
  revert h
  cases ht22:decide (x21<0)
  refine JF λh=>Jy R<|Js<|Jp<|Jg3 [2,2,2] 1 R<|Jf R (pU R R R (by decide))<|Jb 1 R<|Jg3 [2,2,1,2] 1 R<|Jn3 R U193 R R<|Ob h λx32 hx32 h=>Jl1 (κ:=K19) (E:=Ep.bool) (z:=(false:Bool)) 6 R R R R R R R Y193 iG R R R R R (λ_ _ _=>R) (Ju2 hx32) λap aq w24 K25 S26 f27=>Tv<|Jb 1 R<|Jq<|Je3 R ?_
  have hN28:(p1.length:Int)<=9223372036854775807:=f10.len_le
  refine Ob h λq2 hq30 hK29=>?_
  clear h
  refine Jx1 (λL w'=>∃κ',∃s3:(List Bool),L=[(1,.slice a1 p1.length u1),(2,.pointer (some ⟨b2,0,none⟩)),(6,.slice aa x24.length ab),(7,vi<|Int.tmod x21 2),(8,.slice ap x32.length aq)]/\Stp [6] K25 w24 κ' w'/\Oc Ep.bool 4 κ' w' 6 ap aq s3/\x32.length=s3.length/\q2=yk s3) ?_ ?_
  refine Jv<|Jy1 (λk L w'=>∃κ' v9,∃s1:(List Bool),L=[(1,.slice a1 p1.length u1),(2,.pointer (some ⟨b2,0,none⟩)),(5,vi x21),(6,.slice aa x24.length ab),(7,vi<|Int.tmod x21 2),(8,.slice ap x32.length aq),(9,vi v9)]/\Stp [6] K25 w24 κ' w'/\Oc Ep.bool 4 κ' w' 6 ap aq s1/\x32.length=s1.length/\0<=v9/\yn ((p1.length:Int)-v9)=k/\cntM (jY p0 p1 x21) k v9 s1=some q2) ⟨_,_,⟨K25,0,x32,R,Jj3,f27,R,(by decide),(by simp),hq30⟩,(KM R)⟩ ?_
  rintro k _ w36 ⟨K37,v9,s1,rfl,S38,f39,hn40,hj28,hJ28,h⟩
  rcases k with _ | k
  have hk41:=h;obtain⟨o28,h⟩:=ca (yk (yl s1):(List Bool)⊕(((List Bool))⊕((List Bool))))
  have hc28:decide (v9<(p1.length:Int))=false:=Jo2 (by omega)
  refine Jq<|Jg3 [2,2,2,2] 2 R<|Jn3 R U193 R R<|Jb 1 R<|Jw2 R hc28<|Jc1<|Jt<|Jt ?_
  cases h
  have h:=hk41
  refine Jb1 ?_
  cases h
  exact Jw1 _ ⟨K37,s1,R,S38.wk R,f39,hn40,R⟩<|KM R
  obtain⟨o28,h,hk41⟩:=BI h;unfold jY at h
  have hc28:decide (v9<(p1.length:Int))=true:=Jn2 (by omega)
  refine Jq<|Jg3 [2,2,2,2] 2 R<|Jn3 R U193 R R<|Jb 1 R<|Jv2 R hc28<|Js<|Jp<|Jq<|Jv<|Jh3 [2,2,2,2,2,1,2,2,1,2,2,1,2,2,2,2,1] 4 R<|Ob h λx43 hx43 h=>Jc3 R f10 hx43 U193 Z4<|Jb3 R I4 ((f10.stp (T4 S15 S20 S26 S38) R R).gBool hx43)<|Jn 1 R<|Ob h λp53 h hK43=>Ju1 [(7,2),(8,1),(9,2),(10,2),(11,1),(12,2),(13,2),(14,2)] [(15,2),(16,1)] (λL w'=>L=[(1,.slice a1 p1.length u1),(2,.pointer (some ⟨b2,0,none⟩)),(5,vi x21),(6,.slice aa x24.length ab),(7,vi<|Int.tmod x21 2),(8,.slice ap x32.length aq),(9,vi v9),(39,.slice ap x32.length aq),(40,vi v9),(53,.bool p53)]/\∃κ',Stp [] K37 w36 κ' w') tv ?_ ?_
  revert h
  cases ht44:x43
  refine JF λh=>Jn 1 R<|Jd1 R R R R<|Jn 2 R<|Jd1 R R R R<|Jn 3 R ?_
  cases h
  exact Jv1 _ tv ⟨R,_,Jj3⟩<|KM R
  have S001:=(T4 S15 S20 S26 S38)
  refine JT λh=>Jd3 R U191 R Z29<|Jb3 R I29 ((f4.stp S001 R R).ld 1 R R)<|Jn 1 R<|Ob h λx49 hx49 h=>Jc3 R f6 hx49 U29 Z2<|Jb3 R I2 ((f6.stp S001 R R).gInt hx49)<|Jn 3 R ?_
  cases h
  exact Jv1 _ tv ⟨R,_,Jj3⟩<|KM R
  rintro _ w47 _ ⟨rfl,K48,S49⟩
  have h:=hK43
  refine Ob h λx54 hx54 h=>Jf R (Jf2 f39.rdc hx54 U193 Z4 R R hn40 R)<|Ob h λy264 hy264 h=>Jk1 (κ:=K48) (E:=Ep.bool) 6 [] R R R R R R R R Z4 R R R R (f39.stp S49 R R) hy264 λw51 K52 S53 f54=>Tv<|?_
  have hn55:x32.length=y264.length:=hn40.trans (Jt2 hy264).2.2.2.symm
  refine Jo<|Jz<|Jp<|Jf3 R ?_
  have hw28:sh .i64 (v9+1)=v9+1:=wr1 hj28 (Jm2 hc28) hN28
  rw[hw28]
  have hc28:=Jm2 hc28
  cases h
  exact Jz1 λa ha=>⟨k,_,Ja3 _,⟨K52,v9+1,y264,R,(T3 S38 S49 S53).wk R,f54,hn55,by omega,by omega,hk41⟩,(ha.mm R)⟩
  rintro _ w31 ⟨K32,s3,rfl,S33,f34,hn35,rfl⟩
  have h:=yI hK29
  refine Jp<|Jg3 [2,1,2,2,2,1,1,2] 1 R ?_
  have f56:=f4.stp (T4 S15 S20 S26 S33) R R
  refine Jl tv R R R R (Jd2 (cs:=[.slice af p0.owner.length ae,.slice ah p0.prio.length al,.slice aj p0.next.length ai,.slice ak p0.prev.length ad,.slice ac p0.pick.length am]) I191 Z191 R R R<|haE f56.cells)<|Jn 3 R<|Ob h λx60 hx60 h=>?_
  have f57:=f5.stp (T4 S15 S20 S26 S33) R R
  have f58:=f6.stp (T4 S15 S20 S26 S33) R R
  have f59:=f7.stp (T4 S15 S20 S26 S33) R R
  have f60:=f8.stp (T4 S15 S20 S26 S33) R R
  have f61:=f9.stp (T4 S15 S20 S26 S33) R R
  have f62:=f10.stp (T4 S15 S20 S26 S33) R R
  refine Jh R R R C242 (Ret.cast (by simp only[hn35,List.cons_append,List.nil_append])<|mB (κ:=Mk K32) (p0:=p0) (Ji3 f57) (Ji3 f58) (Ji3 f59) (Ji3 f60) (Ji3 f61) (Ji3 f62) (Ji3 f34.rdc) hx60) ?_
  rintro _ w63 ⟨k64,aB,aD,rfl,e65,f66⟩
  obtain⟨K67,S68,m69⟩:=Ji e65 7 R
  refine Tv<|Ob h λx61 hx61 h=>?_
  have f72:=f62.stp S68 R R
  refine Jh R R R C241 (oS (κ:=Mk K67) (Ji3 f72) (Ji3 (f66.mx ie m69 R (R:7+2=9)).rdc) hx61) ?_
  rintro _ w73 ⟨k74,az,aA,rfl,e75,f76⟩
  obtain⟨K77,S78,m79⟩:=Ji e75 10 R
  refine Tv<|?_
  have f81:=f76.mx ie m79 R (R:10+2=12)
  refine Jb 1 R<|Je [1,2,1,2] R ?_
  have f82:=f56.stp (S68.tr S78) R R
  refine Jl tv R R R R (Jd2 (cs:=[.slice af p0.owner.length ae,.slice ah p0.prio.length al,.slice aj p0.next.length ai,.slice ak p0.prev.length ad,.slice ac p0.pick.length am]) I191 Z191 R R R<|haE f82.cells)<|Jn 1 R<|Ob h λx64 hx64 h=>?_
  have f83:=f57.stp (S68.tr S78) R R
  have f84:=f58.stp (S68.tr S78) R R
  have f85:=f59.stp (S68.tr S78) R R
  have f86:=f60.stp (S68.tr S78) R R
  have f87:=f61.stp (S68.tr S78) R R
  refine Jh R R R C213 (ih (κ:=Mk K77) (p0:=p0) (Ji3 f83) (Ji3 f84) (Ji3 f85) (Ji3 f86) (Ji3 f87) (Ji3 f81.rdc) hx64) ?_
  rintro _ w88 ⟨k89,ay,av,rfl,e90,f91⟩
  obtain⟨K92,S93,m94⟩:=Ji e90 13 R
  refine Tv<|?_
  have f96:=f91.mx ie m94 R (R:13+2=15)
  refine Jb 1 R<|Jg3 [2,2,1,2] 1 R<|Jn3 R U193 R R<|Ob h λx67 hx67 h=>Jl1 (κ:=K92) (E:=Ep.bool) (z:=(false:Bool)) 16 R R R R R R R Y193 iG R R R R R (λ_ _ _=>R) (Ju2 hx67) λao an w97 K98 S99 f100=>Tv<|Jb 1 R<|Je3 R<|Jq<|Je3 R ?_
  have hN101:(p1.length:Int)<=9223372036854775807:=f72.len_le
  refine Ob h λq5 hq103 hK102=>?_
  clear h
  refine Jx1 (λL w'=>∃κ',∃s6:Bool×(List Bool),L=[(1,.slice a1 p1.length u1),(2,.pointer (some ⟨b2,0,none⟩)),(6,.slice aa x24.length ab),(7,vi<|Int.tmod x21 2),(12,.slice ao x67.length an),(13,.bool s6.1)]/\Stp [16] K98 w97 κ' w'/\Oc Ep.bool 4 κ' w' 16 ao an s6.2/\x67.length=s6.2.length/\q5=yk s6) ?_ ?_
  refine Jv<|Jy1 (λk L w'=>∃κ' v14,∃s4:Bool×(List Bool),L=[(1,.slice a1 p1.length u1),(2,.pointer (some ⟨b2,0,none⟩)),(6,.slice aa x24.length ab),(7,vi<|Int.tmod x21 2),(10,.slice az x61.length aA),(11,.slice ay x64.length av),(12,.slice ao x67.length an),(13,.bool s4.1),(14,vi v14)]/\Stp [16] K98 w97 κ' w'/\Oc Ep.bool 4 κ' w' 16 ao an s4.2/\x67.length=s4.2.length/\0<=v14/\yn ((p1.length:Int)-v14)=k/\cntM (iz x21 x61 x64) k v14 s4=some q5) ⟨_,_,⟨K98,0,(false,x67),R,Jj3,f100,R,(by decide),(by simp),hq103⟩,(KM R)⟩ ?_
  rintro k _ w109 ⟨K110,v14,s4,rfl,S111,f112,hn113,hj101,hJ101,h⟩
  rcases k with _ | k
  have hk114:=h;obtain⟨o101,h⟩:=ca (yk (yl s4):(List Bool)⊕((Bool×(List Bool))⊕(Bool×(List Bool))))
  have hc101:decide (v14<(p1.length:Int))=false:=Jo2 (by omega)
  refine Jq<|Jg3 [2,2,2,2] 2 R<|Jn3 R U193 R R<|Jb 1 R<|Jw2 R hc101<|Jc1<|Jt<|Jt ?_
  cases h
  have h:=hk114
  refine Jb1 ?_
  cases h
  exact Jw1 _ ⟨K110,(s4.1,s4.2),R,S111.wk R,f112,hn113,R⟩<|KM R
  obtain⟨o101,h,hk114⟩:=BI h;unfold iz at h
  have hc101:decide (v14<(p1.length:Int))=true:=Jn2 (by omega)
  refine Jq<|Jg3 [2,2,2,2] 2 R<|Jn3 R U193 R R<|Jb 1 R<|Jv2 R hc101<|Js<|Jp<|Jq<|Jv<|Jg3 [2,2,2,2,2,1,2,2,2,2,1,2,2,2,2,2,1] 4 R<|Ob h λx78 hx78 h=>Jc3 R f81.rdc hx78 U193 Z4<|Jb3 R I4 ((f81.stp (T3 S93 S99 S111) R R).rdc.gBool hx78)<|Jn 1 R<|Ob h λp88 h hK116=>Ju1 [(7,2),(8,2),(9,2),(10,1),(11,2),(12,2),(13,2),(14,2)] [(15,2),(16,1)] (λL w'=>L=[(1,.slice a1 p1.length u1),(2,.pointer (some ⟨b2,0,none⟩)),(6,.slice aa x24.length ab),(7,vi<|Int.tmod x21 2),(10,.slice az x61.length aA),(11,.slice ay x64.length av),(12,.slice ao x67.length an),(13,.bool s4.1),(14,vi v14),(74,.slice ao x67.length an),(75,vi v14),(88,.bool p88)]/\∃κ',Stp [] K110 w109 κ' w') tv ?_ ?_
  revert h
  cases ht117:x78
  refine JF λh=>Jn 3 R<|Jd1 R R R R<|Jn 4 R ?_
  cases h
  exact Jv1 _ tv ⟨R,_,Jj3⟩<|KM R
  refine JT λh=>Jn 2 R<|Ob h λx83 hx83 h=>Jc3 R f96.rdc hx83 U193 Z4<|Jb3 R I4 ((f96.stp (S99.tr S111) R R).rdc.gBool hx83)<|Jn 2 R<|Jf R (rY R R U4 R)<|Jn 1 R ?_
  cases h
  exact Jv1 _ tv ⟨R,_,Jj3⟩<|KM R
  rintro _ w119 _ ⟨rfl,K120,S121⟩
  have h:=hK116
  refine Ob h λx89 hx89 h=>Jf R (Jf2 f112.rdc hx89 U193 Z4 R R hn113 R)<|Ob h λy283 hy283 h=>Jk1 (κ:=K120) (E:=Ep.bool) 16 [] R R R R R R R R Z4 R R R R (f112.stp S121 R R) hy283 λw123 K124 S125 f126=>Tv<|?_
  have hn127:x67.length=y283.length:=hn113.trans (Jt2 hy283).2.2.2.symm
  refine Jd<|Jh3 [2,2,2,2,2,1,2,2] 2 R<|Ob h λp96 h hK128=>Ju1 [(2,2),(3,2),(4,2),(5,1),(6,2)] [(7,2)] (λL w'=>L=[(1,.slice a1 p1.length u1),(2,.pointer (some ⟨b2,0,none⟩)),(6,.slice aa x24.length ab),(7,vi<|Int.tmod x21 2),(10,.slice az x61.length aA),(11,.slice ay x64.length av),(12,.slice ao x67.length an),(13,.bool s4.1),(14,vi v14),(96,.bool p96)]/\∃κ',Stp [] K124 w123 κ' w') tv ?_ ?_
  revert h
  cases ht129:s4.1
  refine JF λh=>Jn 2 R<|Ob h λx94 hx94 h=>Jf R (Jf2 f126.rdc hx94 U193 Z4 R R hn127 R)<|Jb3 R I4 (f126.rdc.gBool hx94)<|Jn 1 R ?_
  cases h
  exact Jv1 _ tv ⟨R,_,Jj3⟩<|KM R
  refine JT λh=>Jn 3 R<|Jd1 R R R R<|Jn 1 R ?_
  cases h
  exact Jv1 _ tv ⟨R,_,Jj3⟩<|KM R
  rintro _ w130 _ ⟨rfl,K131,S132⟩
  have h:=hK128
  refine Jc 1 R<|Jz<|Jp<|Jf3 R ?_
  have hw101:sh .i64 (v14+1)=v14+1:=wr1 hj101 (Jm2 hc101) hN101
  rw[hw101]
  have hc101:=Jm2 hc101
  cases h
  exact Jz1 λa ha=>⟨k,_,Ja3 _,⟨K131,v14+1,(p96,y283),R,(T4 S111 S121 S125 S132).wk R,(f126.stp S132 R R),hn127,by omega,by omega,hk114⟩,(ha.mm R)⟩
  rintro _ w104 ⟨K105,s6,rfl,S106,f107,hn108,rfl⟩
  have h:=yI hK102
  refine Jp<|Jq<|Je3 R ?_
  revert h
  cases ht134:(!s6.1)
  refine JF λh=>Jy R<|Js<|Jp<|Je [1,2,2,2,2,1,2] R ?_
  have f163:=f82.stp (T3 S93 S99 S106) R R
  refine Jl tv R R R R (Jd2 (cs:=[.slice af p0.owner.length ae,.slice ah p0.prio.length al,.slice aj p0.next.length ai,.slice ak p0.prev.length ad,.slice ac p0.pick.length am]) I191 Z191 R R R<|haE f163.cells)<|Jn 4 R<|Ob h λx122 hx122 h=>?_
  have f164:=f83.stp (T3 S93 S99 S106) R R
  have f165:=f84.stp (T3 S93 S99 S106) R R
  have f166:=f85.stp (T3 S93 S99 S106) R R
  have f167:=f86.stp (T3 S93 S99 S106) R R
  have f168:=f87.stp (T3 S93 S99 S106) R R
  have f169:=f72.stp (T4 S78 S93 S99 S106) R R
  refine Jh R R R C242 (Ret.cast (by simp only[hn108,List.cons_append,List.nil_append])<|mB (κ:=Mk K105) (p0:=p0) (Ji3 f164) (Ji3 f165) (Ji3 f166) (Ji3 f167) (Ji3 f168) (Ji3 f169) (Ji3 f107.rdc) hx122) ?_
  rintro _ w170 ⟨k171,ar,au,rfl,e172,f173⟩
  obtain⟨K174,S175,m176⟩:=Ji e172 17 R
  refine Tv<|Jb 1 R<|Jq<|Js1 (κ:=K174) [2] none [(1,2),(2,2),(0,0),(3,1),(4,1),(5,2)] [] (by kernel_rfl) (by kernel_rfl) λw180 S179=>Jn 2 R<|Jg R (Jd2 (cs:=[.slice af p0.owner.length ae,.slice ah p0.prio.length al,.slice aj p0.next.length ai,.slice ak p0.prev.length ad,.slice ac p0.pick.length am]) I191 Z191 R R R<|haC (f163.stp (S175.tr S179) R R).cells R)<|Ob h λx126 hx126 h=>?_
  have f182:=f169.stp (S175.tr S179) R R
  have f183:=(f173.mx ie m176 R (R:17+2=19)).stp S179 R R
  refine Jh R R R C241 (oS (κ:=Mk K174) (Ji3 f182) (Ji3 f183.rdc) hx126) ?_
  rintro _ w184 ⟨k185,aE,aC,rfl,e186,f187⟩
  obtain⟨K188,S189,m190⟩:=Ji e186 20 R
  have S002:=(T3 S175 S179 S189)
  refine⟨(S189.cl R),Ob h λx127 hx127 h=>Jh R R R C213 (ih (κ:=Mk K188) (p0:=p0) (Ji3<|f164.stp S002 R R) (Ji3<|f165.stp S002 R R) (Ji3<|f166.stp S002 R R) (Ji3<|f167.stp S002 R R) (Ji3<|f168.stp S002 R R) (Ji3 (f187.mx ie m190 R (R:20+2=22)).rdc) hx127) ?_⟩
  rintro _ w198 ⟨k199,ax,aw,rfl,e200,f201⟩
  obtain⟨K202,S203,m204⟩:=Ji e200 23 R
  refine⟨((S189.tr S203).cl R),?_⟩
  have f206:=f201.mx ie m204 R (R:23+2=25)
  refine Jn 1 R<|Jt1<|Jd<|Jq<|Je3 R ?_
  have hN207:(p1.length:Int)<=9223372036854775807:=f182.len_le
  refine Ob h λq11 hq209 hK208=>?_
  clear h
  refine Jx1 (λL w'=>∃κ',∃s12:(List Bool),L=[(6,.slice aa x24.length ab)]/\Stp [5] K202 w198 κ' w'/\Oc Ep.bool 4 κ' w' 5 aa ab s12/\x24.length=s12.length/\q11=yk s12) ?_ ?_
  refine Jv<|Jy1 (λk L w'=>∃κ' v18,∃s10:(List Bool),L=[(1,.slice a1 p1.length u1),(6,.slice aa x24.length ab),(7,vi<|Int.tmod x21 2),(16,.slice ar x122.length au),(17,.slice ax x127.length aw),(18,vi v18)]/\Stp [5] K202 w198 κ' w'/\Oc Ep.bool 4 κ' w' 5 aa ab s10/\x24.length=s10.length/\0<=v18/\yn ((p1.length:Int)-v18)=k/\cntM (jQ x21 x122 x127) k v18 s10=some q11) ⟨_,_,⟨K202,0,x24,R,Jj3,(f21.stp (T11 S26 S33 S68 S78 S93 S99 S106 S175 S179 S189 S203) R R),R,(by decide),(by simp),hq209⟩,(KM R)⟩ ?_
  rintro k _ w215 ⟨K216,v18,s10,rfl,S217,f218,hn219,hj207,hJ207,h⟩
  rcases k with _ | k
  have hk221:=h;obtain⟨o207,h⟩:=ca (yk (yl s10):(List Bool)⊕(((List Bool))⊕((List Bool))))
  have hc207:decide (v18<(p1.length:Int))=false:=Jo2 (by omega)
  refine Jq<|Jg3 [2,2,2,2] 2 R<|Jn3 R U193 R R<|Jb 1 R<|Jw2 R hc207<|Jc1<|Jt<|Jt ?_
  cases h
  have h:=hk221
  refine Jb1 ?_
  cases h
  exact Jw1 _ ⟨K216,s10,R,S217.wk R,f218,hn219,R⟩<|KM R
  obtain⟨o207,h,hk221⟩:=BI h;unfold jQ at h
  have hc207:decide (v18<(p1.length:Int))=true:=Jn2 (by omega)
  refine Jq<|Jg3 [2,2,2,2] 2 R<|Jn3 R U193 R R<|Jb 1 R<|Jv2 R hc207<|Js<|Jp<|Jq<|Jv<|Jh3 [2,2,2,2,2,1,2,2,2,2,1,2,2,2,2,2,2,1] 4 R<|Ob h λx138 hx138 h=>Jc3 R f206.rdc hx138 U193 Z4<|Jb3 R I4 ((f206.stp S217 R R).rdc.gBool hx138)<|Jn 1 R<|Ob h λp149 h hK223=>Ju1 [(7,2),(8,2),(9,2),(10,1),(11,2),(12,2),(13,2),(14,2),(15,2)] [(16,2),(17,1)] (λL w'=>L=[(1,.slice a1 p1.length u1),(6,.slice aa x24.length ab),(7,vi<|Int.tmod x21 2),(16,.slice ar x122.length au),(17,.slice ax x127.length aw),(18,vi v18),(134,.slice aa x24.length ab),(135,vi v18),(149,.bool p149)]/\∃κ',Stp [] K216 w215 κ' w') tv ?_ ?_
  revert h
  cases ht224:x138
  refine JF λh=>Jn 2 R<|Ob h λx143 hx143 h=>Jc3 R f183.rdc hx143 U193 Z4<|Jb3 R I4 ((f183.stp (T3 S189 S203 S217) R R).rdc.gBool hx143)<|Jn 1 R<|Ob h λp148 h hK226=>Ju1 [(12,2),(13,2),(14,2)] [(15,2)] (λL w'=>L=[(1,.slice a1 p1.length u1),(6,.slice aa x24.length ab),(7,vi<|Int.tmod x21 2),(16,.slice ar x122.length au),(17,.slice ax x127.length aw),(18,vi v18),(134,.slice aa x24.length ab),(135,vi v18),(140,.bool false),(141,.slice ar x122.length au),(142,vi v18),(143,.pointer (some<|aAt ar<|v18.toNat * 1)),(144,.bool x143),(145,.bool x143),(148,.bool p148)]/\∃κ',Stp [] K216 w215 κ' w') tv ?_ ?_
  revert h
  cases ht227:x143
  refine JF λh=>Jn 3 R ?_
  cases h
  exact Jv1 _ tv ⟨R,_,Jj3⟩<|KM R
  refine JT λh=>Jn 3 R ?_
  cases h
  exact Jv1 _ tv ⟨R,_,Jj3⟩<|KM R
  rintro _ w228 _ ⟨rfl,K229,S230⟩
  have h:=hK226
  refine Jn 1 R ?_
  cases h
  exact Jv1 _ tv ⟨R,_,S230.wk R⟩<|KM R
  refine JT λh=>Jn 3 R<|Jd1 R R R R<|Jn 5 R ?_
  cases h
  exact Jv1 _ tv ⟨R,_,Jj3⟩<|KM R
  rintro _ w231 _ ⟨rfl,K232,S233⟩
  have h:=hK223
  refine Ob h λx150 hx150 h=>Jf R (Jf2 f218.rdc hx150 U193 Z4 R R hn219 R)<|Ob h λy288 hy288 h=>Jk1 (κ:=K232) (E:=Ep.bool) 5 [] R R R R R R R R Z4 R R R R (f218.stp S233 R R) hy288 λw235 K236 S237 f238=>Tv<|?_
  have hn239:x24.length=y288.length:=hn219.trans (Jt2 hy288).2.2.2.symm
  refine Jo<|Jz<|Jp<|Jf3 R ?_
  have hw207:sh .i64 (v18+1)=v18+1:=wr1 hj207 (Jm2 hc207) hN207
  rw[hw207]
  have hc207:=Jm2 hc207
  cases h
  exact Jz1 λa ha=>⟨k,_,Ja3 _,⟨K236,v18+1,y288,R,(T3 S217 S233 S237).wk R,f238,hn239,by omega,by omega,hk221⟩,(ha.mm R)⟩
  rintro _ w210 ⟨K211,s12,rfl,S212,f213,hn214,rfl⟩
  have h:=yI hK208
  refine Jp<|Je3 R<|Ju<|Ja2 (l:=[.tmp 4]) V213 (Jp2 R R) R ?_
  cases h
  exact⟨(λb=>ren [(5,2)]<|K211 b),aa,ab,(by simp only[hn214]),((hE.stp (T15 S3 S15 S20 S26 S33 S68 S78 S93 S99 S106 S175 S179 S189 S203 S212) R R).map (ren [(5,2)]) R R),(f213.map (ren [(5,2)]) R R)⟩
  refine JT λh=>Jx R<|Jq<|Je3 R ?_
  have hN135:(p1.length:Int)<=9223372036854775807:=f72.len_le
  refine Ob h λq8 hq137 hK136=>?_
  clear h
  refine Jx1 (λL w'=>∃κ',∃s9:(List Bool),L=[(6,.slice aa x24.length ab)]/\Stp [5] K105 w104 κ' w'/\Oc Ep.bool 4 κ' w' 5 aa ab s9/\x24.length=s9.length/\q8=yk s9) ?_ ?_
  refine Jv<|Jy1 (λk L w'=>∃κ' v15,∃s7:(List Bool),L=[(1,.slice a1 p1.length u1),(6,.slice aa x24.length ab),(7,vi<|Int.tmod x21 2),(15,vi v15)]/\Stp [5] K105 w104 κ' w'/\Oc Ep.bool 4 κ' w' 5 aa ab s7/\x24.length=s7.length/\0<=v15/\yn ((p1.length:Int)-v15)=k/\cntM (jF p1 x21) k v15 s7=some q8) ⟨_,_,⟨K105,0,x24,R,Jj3,(f21.stp (T7 S26 S33 S68 S78 S93 S99 S106) R R),R,(by decide),(by simp),hq137⟩,(KM R)⟩ ?_
  rintro k _ w143 ⟨K144,v15,s7,rfl,S145,f146,hn147,hj135,hJ135,h⟩
  rcases k with _ | k
  have hk149:=h;obtain⟨o135,h⟩:=ca (yk (yl s7):(List Bool)⊕(((List Bool))⊕((List Bool))))
  have hc135:decide (v15<(p1.length:Int))=false:=Jo2 (by omega)
  refine Jq<|Jg3 [2,2,2,2] 2 R<|Jn3 R U193 R R<|Jb 1 R<|Jw2 R hc135<|Jc1<|Jt<|Jt ?_
  cases h
  have h:=hk149
  refine Jb1 ?_
  cases h
  exact Jw1 _ ⟨K144,s7,R,S145.wk R,f146,hn147,R⟩<|KM R
  obtain⟨o135,h,hk149⟩:=BI h;unfold jF at h
  have hc135:decide (v15<(p1.length:Int))=true:=Jn2 (by omega)
  refine Jq<|Jg3 [2,2,2,2] 2 R<|Jn3 R U193 R R<|Jb 1 R<|Jv2 R hc135<|Js<|Jp<|Jq<|Jv<|Jh3 [2,2,2,2,2,1,2,2,2,2,2,1] 4 R<|Ob h λx109 hx109 h=>Jc3 R f72 hx109 U193 Z4<|Jb3 R I4 ((f72.stp (T5 S78 S93 S99 S106 S145) R R).gBool hx109)<|Jn 1 R<|Ob h λp114 h hK151=>Ju1 [(7,2),(8,2),(9,2)] [(10,2),(11,1)] (λL w'=>L=[(1,.slice a1 p1.length u1),(6,.slice aa x24.length ab),(7,vi<|Int.tmod x21 2),(15,vi v15),(105,.slice aa x24.length ab),(106,vi v15),(114,.bool p114)]/\∃κ',Stp [] K144 w143 κ' w') tv ?_ ?_
  revert h
  cases ht152:x109
  refine JF λh=>Jn 3 R ?_
  cases h
  exact Jv1 _ tv ⟨R,_,Jj3⟩<|KM R
  refine JT λh=>Jn 3 R ?_
  cases h
  exact Jv1 _ tv ⟨R,_,Jj3⟩<|KM R
  rintro _ w153 _ ⟨rfl,K154,S155⟩
  have h:=hK151
  refine Ob h λx115 hx115 h=>Jf R (Jf2 f146.rdc hx115 U193 Z4 R R hn147 R)<|Ob h λy284 hy284 h=>Jk1 (κ:=K154) (E:=Ep.bool) 5 [] R R R R R R R R Z4 R R R R (f146.stp S155 R R) hy284 λw157 K158 S159 f160=>Tv<|?_
  have hn161:x24.length=y284.length:=hn147.trans (Jt2 hy284).2.2.2.symm
  refine Jo<|Jz<|Jp<|Jf3 R ?_
  have hw135:sh .i64 (v15+1)=v15+1:=wr1 hj135 (Jm2 hc135) hN135
  rw[hw135]
  have hc135:=Jm2 hc135
  cases h
  exact Jz1 λa ha=>⟨k,_,Ja3 _,⟨K158,v15+1,y284,R,(T3 S145 S155 S159).wk R,f160,hn161,by omega,by omega,hk149⟩,(ha.mm R)⟩
  rintro _ w138 ⟨K139,s9,rfl,S140,f141,hn142,rfl⟩
  have h:=yI hK136
  refine Jp<|Je3 R<|Ju<|Jw<|Ja2 (l:=[.tmp 4]) V213 (Jp2 R R) R ?_
  cases h
  exact⟨(λb=>ren [(5,2)]<|K139 b),aa,ab,(by simp only[hn142]),((hE.stp (T11 S3 S15 S20 S26 S33 S68 S78 S93 S99 S106 S140) R R).map (ren [(5,2)]) R R),(f141.map (ren [(5,2)]) R R)⟩
  refine JT λh=>Jx R<|Je3 R<|Ju<|Jw<|Ja2 (l:=[.tmp 4]) V213 (Jp2 R R) R ?_
  cases h
  exact⟨(λb=>ren [(5,2)]<|K19 b),aa,ab,R,((hE.stp (T3 S3 S15 S20) R R).map (ren [(5,2)]) R R),(f21.map (ren [(5,2)]) R R)⟩
theorem dc {a0 u0}{p0:(List Int)}{p1:Int}(g0:Rd (Rp.int .i64) κ w 0 a0 u0 p0){r:Bool}(h:cM p0 p1=some r):Ret Tryz.prog 66 [.slice a0 p0.length u0,vi p1] w (Pvb κ w r):=by
 unfold cM at h
 refine Jk3 κ F66 R N66 R λhE=>Je [1,2] R<|Jf1 (κ:=κ) 2 R R R R R R R λb3 w1 K2 S3 f4=>Tv<|Jb 1 R<|Jg3 [2,2,1,2,2] 1 R<|Jf R (oU (first:=[]) (captured:=[.tmp 3]) R R R ⟨_,R⟩)<|Ob h λx7 hx7 h=>Jh R R R C111 (dP (κ:=Mk K2) (Ji3<|g0.stp S3 R R) (f4.map (mp [] 0) R R) hx7) ?_
 rintro _ w6 ⟨k7,rfl,e8⟩
 obtain⟨K9,S10,m11⟩:=Ji e8 3 R
 refine Tv<|Jb 2 R<|Ju<|Ja2 (l:=[.tmp 4]) V66 (Jp2 R R) R ?_
 cases h
 exact⟨K9,R,(hE.stp (S3.tr S10) R R)⟩
theorem tk {p0:Sig}{ap aw aA az}{p1:Machine}{au av ax ay}{p2:Rival}(g1_0:Rd (Rp.sl (Rp.int .i64)) κ w 0 ap aw p1.Next) (g1_1:Rd (Rp.sl (Rp.int .i64)) κ w 0 aA az p1.Out) (g2_0:Rd (Rp.int .i64) κ w 0 au av p2.In) (g2_1:Rd (Rp.sl (Rp.int .i64)) κ w 0 ax ay p2.Next){r:Word×Bool}(h:mi p0 p1 p2=some r):Ret Tryz.prog 11 [.agg #[vi p0.In,vi p0.Out],.agg #[.slice ap p1.Next.length aw,.slice aA p1.Out.length az],.agg #[.slice au p2.In.length av,.slice ax p2.Next.length ay]] w (λv w'=>∃(κ':Col) (ra0:Option Addr) (ru0:Nat) (ra1:Option Addr) (ru1:Nat),v= .tuple #[.agg #[.slice ra0 r.1.Stem.length ru0,.slice ra1 r.1.Loop.length ru1],.bool r.2]/\Ent κ w κ' w'/\Oc E6 2 κ' w' 2 ra0 ru0 r.1.Stem/\Oc E6 2 κ' w' 3 ra1 ru1 r.1.Loop):=by
 unfold mi at h
 refine Jk3 κ F11 R N11 R λhE=>Je [1,1,1,1,2] R<|Jf1 (κ:=κ) 2 R R R R R R R λb3 w1 K2 S3 f4=>Tv<|Jf1 (κ:=K2) 3 R R R R R R R λb4 w5 K6 S7 f8=>Tv<|Jf1 (κ:=K6) 4 R R R R R R R λb5 w9 K10 S11 f12=>Tv<|Jg1 (κ:=K10) 5 R R R R R X35 R λb6 w13 K14 S15 f16=>Tv<|Jb 1 R<|Jq<|Je [1,1,1,2,2,1,1,1,2,2] R ?_
 have f17:=f4.stp (T3 S7 S11 S15) R R
 refine Jl tv R R R R (Jd2 (cs:=[vi p0.In,vi p0.Out]) I25 Z25 R R R<|haE f17.cells) ?_
 have f18:=f8.stp (S11.tr S15) R R
 refine Jl tv R R R R (Jd2 (cs:=[.slice ap p1.Next.length aw,.slice aA p1.Out.length az]) I28 Z28 R R R<|haE f18.cells)<|Ob h λx18 hx18 h=>?_
 have f19:=g1_0.stp (T4 S3 S7 S11 S15) R R
 have f20:=g1_1.stp (T4 S3 S7 S11 S15) R R
 refine Jh R R R C41 (pH (κ:=Mk K14) (p0:=p0) (p1:=p1) (Ji3 f19) (Ji3 f20) hx18) ?_
 rintro _ w21 ⟨k22,rfl,e23⟩
 obtain⟨K24,S25,m26⟩:=Ji e23 6 R
 refine Tv<|Jn 2 R<|Ob h λp25 h hK28=>Ju1 [(5,1),(6,1),(7,1),(8,2),(9,2)] [] (λL w'=>L=[(3,.pointer (some ⟨b3,0,none⟩)),(4,.pointer (some ⟨b4,0,none⟩)),(5,.pointer (some ⟨b5,0,none⟩)),(6,.pointer (some ⟨b6,0,none⟩)),(25,.bool p25)]/\∃κ',Stp [] K24 w21 κ' w') tv ?_ ?_
 revert h
 cases ht29:(!x18)
 have S001:=(T5 S3 S7 S11 S15 S25)
 refine JF λh=>Jl tv R R R R (Jd2 (cs:=[vi p0.In,vi p0.Out]) I25 Z25 R R R<|haE (f17.stp S25 R R).cells)<|Jl tv R R R R (Jd2 (cs:=[.slice au p2.In.length av,.slice ax p2.Next.length ay]) I31 Z31 R R R<|haE (f12.stp (S15.tr S25) R R).cells)<|Ob h λx23 hx23 h=>Jh R R R C53 (rh (κ:=Mk K24) (p0:=p0) (p1:=p2) (Ji3<|g2_0.stp S001 R R) (Ji3<|g2_1.stp S001 R R) hx23) ?_
 rintro _ w34 ⟨k35,rfl,e36⟩
 obtain⟨K37,S38,m39⟩:=Ji e36 8 R
 refine Tv<|Jn 2 R ?_
 cases h
 exact Jv1 _ tv ⟨R,_,S38.wk R⟩<|KM R
 refine JT λh=>Jd1 R R R R<|Jd1 R R R R<|Jd1 R R R R<|Jn 2 R ?_
 cases h
 exact Jv1 _ tv ⟨R,_,Jj3⟩<|KM R
 rintro _ w41 _ ⟨rfl,K42,S43⟩
 have h:=hK28
 refine Jd ?_
 revert h
 cases ht44:p25
 refine JF λh=>Jy R<|Js<|Jp<|Je [1,2] R<|Jo1 (κ:=K42) (E:=(Ep.own E6 2)) 8 R R R R R Y26 bK R λaE aI w50 K51 S52 f53=>Tv<|Jb 1 R<|Je [1,2] R<|Jo1 (κ:=K51) (E:=E6) 9 R R R R R Y29 a8 R λaG aK w54 K55 S56 f57=>Tv<|Jb 1 R<|Je3 R<|Je3 R<|Jq<|Ob h λq2 hq60 hK59=>?_
 clear h
 refine Jx1 (λL w'=>∃κ',∃s3:(List<|List Int)×(List Int)×Int×Int,∃aq an ar ao,L=[(6,.pointer (some ⟨b6,0,none⟩)),(8,.slice aq s3.1.length an),(9,.slice ar s3.2.1.length ao),(10,vi s3.2.2.1),(11,vi s3.2.2.2)]/\Stp [8,9,12,13] K55 w54 κ' w'/\Oc (Ep.own E6 2) 29 κ' w' 8 aq an s3.1/\Oc E6 2 κ' w' 9 ar ao s3.2.1/\q2=yk s3) ?_ ?_
 refine Jv<|Jy1 (λk L w'=>∃κ',∃s1:(List<|List Int)×(List Int)×Int×Int,∃aj al am ak,L=[(3,.pointer (some ⟨b3,0,none⟩)),(4,.pointer (some ⟨b4,0,none⟩)),(5,.pointer (some ⟨b5,0,none⟩)),(6,.pointer (some ⟨b6,0,none⟩)),(8,.slice aj s1.1.length al),(9,.slice am s1.2.1.length ak),(10,vi s1.2.2.1),(11,vi s1.2.2.2)]/\Stp [8,9,12,13] K55 w54 κ' w'/\Oc (Ep.own E6 2) 29 κ' w' 8 aj al s1.1/\Oc E6 2 κ' w' 9 am ak s1.2.1/\bI (ja p0 p1 p2) k s1=some q2) ⟨_,_,⟨K55,((([]:List (List Int)):(List<|List Int)),(([]:List Int):(List Int)),(0:Int),(0:Int)),aE,aI,aG,aK,R,Jj3,(f53.stp S56 R R),f57,hq60⟩,(KM R)⟩ ?_
 rintro k _ w66 ⟨K67,s1,aj,al,am,ak,rfl,S68,f69,f70,h⟩
 rcases k with _ | k
 cases h
 obtain⟨o58,h,hk72⟩:=BI h;unfold ja at h
 refine Jq<|Jg3 [2,2,2,1,2] 3 R<|Ob h λx32 hx32 h=>Jh R R R C54 (kp (κ:=Mk K67) (Ji3 f69.rdc) hx32) ?_
 rintro _ w73 ⟨k74,rfl,e75⟩
 obtain⟨K76,S77,m78⟩:=Ji e75 10 R
 refine Tv<|Jb 1 R ?_
 revert h
 cases ht80:decide (x32<0)
 refine JF λh=>Jy R<|Jc1<|Jt<|Jt ?_
 cases h
 have h:=hk72
 refine Jb1 ?_
 cases h
 exact Jw1 _ ⟨K76,(s1.1,s1.2.1,s1.2.2.1,s1.2.2.2),aj,al,am,ak,R,(S68.tr S77).wk R,(f69.stp S77 R R),(f70.stp S77 R R),R⟩<|KM R
 refine JT λh=>Jx R<|Js<|Jp<|Jv<|Jg3 [2,2,2,1,1,1,2] 3 R<|Jn1 (κ:=K76) (E:=E6) 12 [] (parts:=[(0,.tmp 35),(1,.tmp 36)]) (cells:=[vi s1.2.2.1,vi s1.2.2.2]) (xs:=([s1.2.2.1,s1.2.2.2]:List Int)) R R R R R R Y29 a8 R R R R R R R R R R ⟨[vi s1.2.2.1],[vi s1.2.2.2],Zl K76 w73 [],Zl K76 w73 [],R,Zl.sp (l1:=[]) (l2:=[]) R,Zl.sr (l1:=[]) (l2:=[]),R,⟨[vi s1.2.2.2],[],Zl K76 w73 [],Zl K76 w73 [],R,Zl.sp (l1:=[]) (l2:=[]) R,Zl.sr (l1:=[]) (l2:=[]),R,R⟩⟩ λaC aB w81 K82 S83 f84=>Tv<|Jn1 (κ:=K82) (E:=(Ep.own E6 2)) 13 [12] (parts:=[(0,.tmp 37)]) (cells:=[.slice aC ([s1.2.2.1,s1.2.2.2]:List Int).length aB]) (xs:=([([s1.2.2.1,s1.2.2.2]:List Int)]:List (List Int))) R R R R R R Y26 bK R R R R R R R R R R ⟨[.slice aC ([s1.2.2.1,s1.2.2.2]:List Int).length aB],[],Zl K82 w81 [12],Zl K82 w81 [],R,Zl.sp (l1:=[12]) (l2:=[]) R,Zl.sr (l1:=[12]) (l2:=[]),⟨_,_,R,f84⟩,R⟩ λaN aO w85 K86 S87 f88=>Tv<|Ob h λx39 hx39 h=>Jm1 (κ:=K86) (E:=(Ep.own E6 2)) 8 [13] R R R R R R R R R Y26 bK R R R R (f69.stp (T3 S77 S83 S87) R R) f88.src (dz R) hx39 R λaJ aF w90 K91 S92 f93=>Tv<|Jb 1 R<|Je [2,1,2,2,1,2] R<|Jd3 R U31 R Z29 ?_
 have f94:=f12.stp (T10 S15 S25 S43 S52 S56 S68 S77 S83 S87 S92) R R
 refine Jb3 R I29 (f94.ld 0 R R)<|Jn 1 R<|Ob h λx43 hx43 h=>Jc3 R g2_0 hx43 U29 Z2<|Jb3 R I2 ((g2_0.stp (T13 S3 S7 S11 S15 S25 S43 S52 S56 S68 S77 S83 S87 S92) R R).gInt hx43)<|Jb 1 R<|Je [2,1,2,2,1,2,2,1,2] R<|Jd3 R U28 R Z26 ?_
 have f96:=f18.stp (T9 S25 S43 S52 S56 S68 S77 S83 S87 S92) R R
 refine Jb3 R I26 (f96.ld 1 R R)<|Jn 1 R<|Ob h λx48 hx48 h=>Jc3 R f20 hx48 U26 Z29 ?_
 obtain⟨ax48,ux48,f98,hl99⟩:=(f20.stp (T9 S25 S43 S52 S56 S68 S77 S83 S87 S92) R R).gSl hx48
 refine Jb3 R I29 hl99<|Jn 1 R<|Ob h λx51 hx51 h=>Jc3 R f98 hx51 U29 Z2<|Jb3 R I2 (f98.gInt hx51)<|Jb 1 R<|Jg3 [2,1,2,2,1,1,1,2] 1 R<|Jl tv R R R R (Jd2 (cs:=[vi p0.In,vi p0.Out]) I25 Z25 R R R<|haE (f17.stp (T9 S25 S43 S52 S56 S68 S77 S83 S87 S92) R R).cells)<|Jn 2 R<|Ob h λx57 hx57 h=>Jh R R R C55 (iN (κ:=Mk K91) (p0:=p0) hx57) ?_
 rintro _ w101 ⟨k102,rfl,e103⟩
 obtain⟨K104,S105,m106⟩:=Ji e103 14 R
 refine Tv<|Jn1 (κ:=K104) (E:=E6) 16 [] (parts:=[(0,.tmp 57)]) (cells:=[vi x57]) (xs:=([x57]:List Int)) R R R R R R Y29 a8 R R R R R R R R R R ⟨[vi x57],[],Zl K104 w101 [],Zl K104 w101 [],R,Zl.sp (l1:=[]) (l2:=[]) R,Zl.sr (l1:=[]) (l2:=[]),R,R⟩ λaM aL w108 K109 S110 f111=>Tv<|Ob h λx59 hx59 h=>Jm1 (κ:=K109) (E:=E6) 9 [] R R R R R R R R R Y29 a8 R R R R (f70.stp (T6 S77 S83 S87 S92 S105 S110) R R) (Sl.srcP (bM _) f111.rdc) bH hx59 R λaH aD w113 K114 S115 f116=>Tv<|Jb 1 R<|Je [2,1,2,2,1,2,2,1,2] R<|Jd3 R U28 R Z26<|Jb3 R I26 ((f96.stp (T3 S105 S110 S115) R R).ld 0 R R)<|Jn 1 R<|Ob h λx63 hx63 h=>Jc3 R f19 hx63 U26 Z29 ?_
 obtain⟨ax63,ux63,f119,hl120⟩:=(f19.stp (T12 S25 S43 S52 S56 S68 S77 S83 S87 S92 S105 S110 S115) R R).gSl hx63
 refine Jb3 R I29 hl120<|Jn 1 R<|Ob h λx66 hx66 h=>Jc3 R f119 hx66 U29 Z2<|Jb3 R I2 (f119.gInt hx66)<|Jb 1 R<|Ja [2,1,2,2,1,2,2,1,2] R<|Jd3 R U31 R Z26<|Jb3 R I26 ((f94.stp (T3 S105 S110 S115) R R).ld 1 R R)<|Jn 1 R<|Ob h λx71 hx71 h=>Jc3 R g2_1 hx71 U26 Z29 ?_
 obtain⟨ax71,ux71,f123,hl124⟩:=(g2_1.stp (T16 S3 S7 S11 S15 S25 S43 S52 S56 S68 S77 S83 S87 S92 S105 S110 S115) R R).gSl hx71
 refine Jb3 R I29 hl124<|Jn 1 R<|Ob h λx74 hx74 h=>Jc3 R f123 hx74 U29 Z2<|Jb3 R I2 (f123.gInt hx74)<|Jc 1 R<|Jz ?_
 cases h
 exact Jz1 λa ha=>⟨k,_,Ja3 _,⟨K114,(x39,x59,x66,x74),aJ,aF,aH,aD,R,(T8 S68 S77 S83 S87 S92 S105 S110 S115).wk R,(f93.stp (T3 S105 S110 S115) R R),f116,hk72⟩,(ha.mm R)⟩
 rintro _ w61 ⟨K62,s3,aq,an,ar,ao,rfl,S63,f64,f65,rfl⟩
 have h:=yI hK59
 refine Jp<|Jg3 [2,2,2,1,2] 3 R<|Ob h λx79 hx79 h=>Jh R R R C54 (kp (κ:=Mk K62) (Ji3 f64.rdc) hx79) ?_
 rintro _ w128 ⟨k129,rfl,e130⟩
 obtain⟨K131,S132,m133⟩:=Ji e130 10 R
 refine Tv<|Jb 1 R<|Jq<|Ob h λx82 hx82 h=>Ob h λx86 hx86 h=>Ob h λx83 hx83 h=>Ob h λx87 hx87 h=>Jx1 (λL w'=>∃κ' b15 ah af ai ae,L=[(6,.pointer (some ⟨b6,0,none⟩)),(15,.pointer (some ⟨b15,0,none⟩))]/\Stp [12,14,15,17,18] K131 w128 κ' w'/\Oc E6 2 κ' w' 12 ah af ((⟨x83,x87⟩:Word).Stem)/\Oc E6 2 κ' w' 13 ai ae ((⟨x83,x87⟩:Word).Loop)/\Bc κ' w' 14 b15 35 [.slice ah ((⟨x83,x87⟩:Word).Stem).length af,.slice ai ((⟨x83,x87⟩:Word).Loop).length ae]) ?_ ?_
 refine WC.rxt (κ:=K131) [] none (by kernel_rfl) λw142 S143=>Jq1 (fuel:=5) [(0,2),(1,2),(2,2),(4,2),(5,2),(6,2)] (by kernel_rfl) (by kernel_rfl) R<|Jn 2 R<|Jf R (dE (k1:= .i64) (k2:= .i64) U29 Z2 (.inl ⟨R,R⟩) (.inr ⟨_,R,R⟩) hx82 f65.rdc.1 R R R) ?_
 have f145:=f65.stp (S132.tr S143) R R
 have f144:=f145.rdc.sub hx82
 refine Jn 2 R<|Jf R (dE (k1:= .i64) (k2:= .i64) U29 Z2 (.inr ⟨_,R,R⟩) (.inl ⟨R,R⟩) hx86 f145.rdc.1 R R R) ?_
 have f146:=f145.rdc.sub hx86
 refine Jp1<|WA.fork2 (fuel:=4) 3 9 (by kernel_rfl) R ?_ ?_
 refine Jh R R R C56 (ck (κ:=Mk K131) (Ji3 f144) hx83) ?_
 rintro _ w147 ⟨k148,ad,ac,rfl,e149,f150⟩
 obtain⟨K151,S152,m153⟩:=Ji e149 12 R
 refine⟨(S152.cl R),?_⟩
 have f155:=f150.mx (bD _) m153 R (R:12+2=14)
 refine Jp1<|WA.fork2 (fuel:=3) 7 9 (by kernel_rfl) R ?_ ?_
 refine Jh R R R C56 (ck (κ:=Mk K151) (Ji3<|f146.stp S152 R R) hx87) ?_
 rintro _ w157 ⟨k158,aa,ab,rfl,e159,f160⟩
 obtain⟨K161,S162,m163⟩:=Ji e159 15 R
 have S002:=(S152.tr S162)
 exact⟨(S002.cl R),Jp1<|Jq1 (fuel:=0) [(8,2),(9,1),(10,1)] (by kernel_rfl) (by kernel_rfl) R<|Jf R (bG (parts:=[(0,.tmp 83),(1,.tmp 87)]) (cells:=[.slice ad x83.length ac,.slice aa x87.length ab]) R R (by kernel_rfl))<|Jg1 (κ:=K161) 18 R R R R R X35 R λb15 w166 K167 S168 f169=>⟨((S002.tr S168).cl R),Jj1 (κ:=K167) 18 (vc:=[.slice ad x83.length ac,.slice aa x87.length ab]) R R R R R R R Z35 R R f169 R λw170 S171 f172=>⟨((T3 S002 S168 S171).cl R),Jp1<|Jr1 [] (by kernel_rfl) (by kernel_rfl) R<|Jo<|Jw1 _ ⟨(λb=>ren [(14,12),(17,13),(18,14)]<|K167 b),b15,ad,ac,aa,ab,R,(Jy2 ((T5 S143 S152 S162 S168 S171).wk R) [(14,12),(17,13),(18,14)] R),((f155.stp (T3 S162 S168 S171) R R).map (ren [(14,12),(17,13),(18,14)]) R R),(((f160.mx (bD _) m163 R (R:15+2=17)).stp (S168.tr S171) R R).map (ren [(14,12),(17,13),(18,14)]) R R),(f172.map (ren [(14,12),(17,13),(18,14)]) R R)⟩<|KM R⟩⟩⟩
 refine Jg1 (κ:=K151) 15 R R R R R X35 R λb15 w175 K176 S177 f178=>⟨((S152.tr S177).cl R),Jp1<|Jq1 (fuel:=0) [(7,1),(8,2),(10,1)] (by kernel_rfl) (by kernel_rfl) R<|Jh R R R C56 (ck (κ:=Mk K176) (Ji3<|f146.stp (S152.tr S177) R R) hx87) ?_⟩
 rintro _ w180 ⟨k181,aa,ab,rfl,e182,f183⟩
 obtain⟨K184,S185,m186⟩:=Ji e182 16 R
 have S003:=(T3 S152 S177 S185)
 exact⟨(S003.cl R),Jf R (bG (parts:=[(0,.tmp 83),(1,.tmp 87)]) (cells:=[.slice ad x83.length ac,.slice aa x87.length ab]) R R (by kernel_rfl))<|Jj1 (κ:=K184) 15 (vc:=[.slice ad x83.length ac,.slice aa x87.length ab]) R R R R R R R Z35 R R (f178.stp S185 R R) R λw190 S191 f192=>⟨((S003.tr S191).cl R),Jp1<|Jr1 [] (by kernel_rfl) (by kernel_rfl) R<|Jo<|Jw1 _ ⟨(λb=>ren [(14,12),(18,13),(15,14)]<|K184 b),b15,ad,ac,aa,ab,R,(Jy2 ((T5 S143 S152 S177 S185 S191).wk R) [(14,12),(18,13),(15,14)] R),((f155.stp (T3 S177 S185 S191) R R).map (ren [(14,12),(18,13),(15,14)]) R R),(((f183.mx (bD _) m186 R (R:16+2=18)).stp S191 R R).map (ren [(14,12),(18,13),(15,14)]) R R),(f192.map (ren [(14,12),(18,13),(15,14)]) R R)⟩<|KM R⟩⟩
 refine Jg1 (κ:=K131) 12 R R R R R X35 R λb15 w195 K196 S197 f198=>⟨(S197.cl R),Jp1<|Jq1 (fuel:=0) [(3,1),(7,1),(8,2),(10,1)] (by kernel_rfl) (by kernel_rfl) R<|Jh R R R C56 (ck (κ:=Mk K196) (Ji3<|f144.stp S197 R R) hx83) ?_⟩
 rintro _ w200 ⟨k201,ad,ac,rfl,e202,f203⟩
 obtain⟨K204,S205,m206⟩:=Ji e202 13 R
 refine⟨((S197.tr S205).cl R),Jh R R R C56 (ck (κ:=Mk K204) (Ji3<|f146.stp (S197.tr S205) R R) hx87) ?_⟩
 rintro _ w210 ⟨k211,aa,ab,rfl,e212,f213⟩
 obtain⟨K214,S215,m216⟩:=Ji e212 16 R
 have S004:=(T3 S197 S205 S215)
 exact⟨(S004.cl R),Jf R (bG (parts:=[(0,.tmp 83),(1,.tmp 87)]) (cells:=[.slice ad x83.length ac,.slice aa x87.length ab]) R R (by kernel_rfl))<|Jj1 (κ:=K214) 12 (vc:=[.slice ad x83.length ac,.slice aa x87.length ab]) R R R R R R R Z35 R R (f198.stp (S205.tr S215) R R) R λw220 S221 f222=>⟨((S004.tr S221).cl R),Jp1<|Jr1 [] (by kernel_rfl) (by kernel_rfl) R<|Jo<|Jw1 _ ⟨(λb=>ren [(15,12),(18,13),(12,14)]<|K214 b),b15,ad,ac,aa,ab,R,(Jy2 ((T5 S143 S197 S205 S215 S221).wk R) [(15,12),(18,13),(12,14)] R),(((f203.mx (bD _) m206 R (R:13+2=15)).stp (S215.tr S221) R R).map (ren [(15,12),(18,13),(12,14)]) R R),(((f213.mx (bD _) m216 R (R:16+2=18)).stp S221 R R).map (ren [(15,12),(18,13),(12,14)]) R R),(f222.map (ren [(15,12),(18,13),(12,14)]) R R)⟩<|KM R⟩⟩
 rintro _ w135 ⟨K136,b15,ah,af,ai,ae,rfl,S137,f139,f140,f141⟩
 refine Jp<|Jq<|Je [2,1,2,2,2,2,1,2,2,2] R<|Jd3 R U35 R Z29<|Jb3 R I29 (f141.ld 0 R R)<|Jn3 R U29 R R<|Jn 2 R<|Ob h λp98 h hK225=>Ju1 [(5,2),(6,1),(7,2),(8,2),(9,2)] [] (λL w'=>L=[(6,.pointer (some ⟨b6,0,none⟩)),(15,.pointer (some ⟨b15,0,none⟩)),(98,.bool p98)]/\∃κ',Stp [] K136 w135 κ' w') tv ?_ ?_
 revert h
 cases ht226:decide (600<(((⟨x83,x87⟩:Word).Stem).length:Int))
 refine JF λh=>Jd3 R U35 R Z29<|Jb3 R I29 (f141.ld 1 R R)<|Jn3 R U29 R R<|Jn 2 R ?_
 cases h
 exact Jv1 _ tv ⟨R,_,Jj3⟩<|KM R
 refine JT λh=>Jn 1 R<|Jd1 R R R R<|Jn 3 R ?_
 cases h
 exact Jv1 _ tv ⟨R,_,Jj3⟩<|KM R
 rintro _ w227 _ ⟨rfl,K228,S229⟩
 have h:=hK225
 refine Jd ?_
 revert h
 cases ht230:p98
 refine JF λh=>Jy R<|Js<|Jp<|Je [1,1,2] R<|Jl tv R R R R (Jd2 (cs:=[.slice ah ((⟨x83,x87⟩:Word).Stem).length af,.slice ai ((⟨x83,x87⟩:Word).Loop).length ae]) I35 Z35 R R R<|haE (f141.stp S229 R R).cells)<|Jj1 (κ:=K228) 5 (vc:=[.slice ah ((⟨x83,x87⟩:Word).Stem).length af,.slice ai ((⟨x83,x87⟩:Word).Loop).length ae]) R R R R R R R Z35 R R (f16.stp (T8 S25 S43 S52 S56 S63 S132 S137 S229) R R) R λw238 S239 f240=>Tv<|Jb 1 R<|Ju<|Ja2 (l:=[.cell 6 35,.tmp 7]) V11 (bF R f240 I35 Z35 R<|Jp2 R R) R ?_
 cases h
 exact⟨(λb=>ren [(12,2),(13,3)]<|K228 b),ah,af,ai,ae,R,((hE.stp (T13 S3 S7 S11 S15 S25 S43 S52 S56 S63 S132 S137 S229 S239) R R).map (ren [(12,2),(13,3)]) R R),((f139.stp (S229.tr S239) R R).map (ren [(12,2),(13,3)]) R R),((f140.stp (S229.tr S239) R R).map (ren [(12,2),(13,3)]) R R)⟩
 refine JT λh=>Jx R<|Je [2,1,2] R<|Jf R (bG (parts:=[]) (cells:=[.slice none 0 0,.slice none 0 0]) R R (by kernel_rfl))<|Jj1 (κ:=K228) 5 (vc:=[.slice none 0 0,.slice none 0 0]) R R R R R R R Z35 R R (f16.stp (T8 S25 S43 S52 S56 S63 S132 S137 S229) R R) R λw232 S233 f234=>Tv<|Jb 1 R<|Ju<|Jw<|Ja2 (l:=[.cell 6 35,.tmp 7]) V11 (bF R f234 I35 Z35 R<|Jp2 R R) R ?_
 cases h
 exact⟨K228,none,0,none,0,R,(hE.stp (T13 S3 S7 S11 S15 S25 S43 S52 S56 S63 S132 S137 S229 S233) R R),Ow.nil,Ow.nil⟩
 refine JT λh=>Jx R<|Je [2,1,2] R<|Jf R (bG (parts:=[]) (cells:=[.slice none 0 0,.slice none 0 0]) R R (by kernel_rfl))<|Jj1 (κ:=K42) 5 (vc:=[.slice none 0 0,.slice none 0 0]) R R R R R R R Z35 R R (f16.stp (S25.tr S43) R R) R λw46 S47 f48=>Tv<|Jb 1 R<|Ju<|Jw<|Ja2 (l:=[.cell 6 35,.tmp 7]) V11 (bF R f48 I35 Z35 R<|Jp2 R R) R ?_
 cases h
 exact⟨K42,none,0,none,0,R,(hE.stp (T7 S3 S7 S11 S15 S25 S43 S47) R R),Ow.nil,Ow.nil⟩
theorem pL {p0:Sig}{p1:Int}  {r:Int}(h:lC p0 p1=some r):Ret Tryz.prog 13 [.agg #[vi p0.In,vi p0.Out],vi p1] w (Pvi κ w r):=by
 unfold lC at h
 refine Jk3 κ F13 R N13 R λhE=>Je [1,2] R<|Jf1 (κ:=κ) 2 R R R R R R R λb2 w1 K2 S3 f4=>Tv<|Jb 1 R<|Jq<|Jg3 [2,1,1,2,1,2] 1 R<|Jl tv R R R R (Jd2 (cs:=[vi p0.In,vi p0.Out]) I25 Z25 R R R<|haE f4.cells)<|Ob h λx7 hx7 h=>Jh R R R C58 (dr (κ:=Mk K2) (p0:=p0) hx7) ?_
 rintro _ w5 ⟨k6,rfl,e7⟩
 obtain⟨K8,S9,m10⟩:=Ji e7 3 R
 refine Tv<|Jn 1 R<|Ob h λx9 hx9 h=>Jh R R R C57 (cu (κ:=Mk K8) hx9) ?_
 rintro _ w12 ⟨k13,rfl,e14⟩
 obtain⟨K15,S16,m17⟩:=Ji e14 5 R
 refine Tv<|Jb 1 R ?_
 revert h
 cases ht19:(!x9)
 refine JF λh=>Jy R<|Js<|Jp<|Jg3 [2,2,1,1,2,2] 1 R<|Jd3 R U25 R Z2<|Jb3 R I2 ((f4.stp (S9.tr S16) R R).ld 0 R R)<|Ob h λx14 hx14 h=>Jh R R R C59 (cv (κ:=Mk K15) hx14) ?_
 rintro _ w22 ⟨k23,rfl,e24⟩
 obtain⟨K25,S26,m27⟩:=Ji e24 7 R
 refine Tv<|Ob h λ_z15 hz15 h=>Jf R (xD R R R<|sk hz15)<|Jb 1 R<|Ju<|Ja2 (l:=[.tmp 4]) V13 (Jp2 R R) R ?_
 cases h
 exact⟨K25,R,(hE.stp (T4 S3 S9 S16 S26) R R)⟩
 refine JT λh=>Jx R<|Je3 R<|Ju<|Jw<|Ja2 (l:=[.tmp 4]) V13 (Jp2 R R) R ?_
 cases h
 exact⟨K15,R,(hE.stp (T3 S3 S9 S16) R R)⟩
end Go.Proofs.YtpcjbkgbnoocaaaGreat
