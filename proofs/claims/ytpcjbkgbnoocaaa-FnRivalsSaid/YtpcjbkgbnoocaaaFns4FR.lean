/- The walks, part 4. By program. -/
import Derived.Test.YtpcjbkgbnoocaaaFns3FR
set_option linter.unusedVariables false
set_option linter.unusedSimpArgs false
open Go.IntKind renaming wrap → sh
open Sum renaming inr → vq, inl → vr
open Int renaming toNat → vu
namespace Go.Proofs.Ytpcjbkgbnoocaaa
open Go Go.Wk Go.Proofs
set_option maxRecDepth 100000
set_option maxHeartbeats 1000000
variable {w:World}{κ:Col}
theorem nk {aa ab}{p0:l1Cur}{b0}(g0_0:Rd (Rp.int .u8) κ w 0 aa ab p0.b) (gb0:Bc κ w 2 b0 56 [.slice aa p0.b.length ab,vi p0.i,vi p0.h]){r:Sig×Int×Int}(h:fW p0=some r):Ret Try.prog 15 [.pointer (some ⟨b0,0,none⟩)] w (λv w'=>∃(κ':Col),v= .agg #[vi r.1.In,vi r.1.Out]/\Ent κ w κ' w'/\Bc κ' w' 2 b0 56 [.slice aa p0.b.length ab,vi r.2.1,vi r.2.2]):=by
 unfold fW at h
 refine Jk3 κ F15 R N15 R λhE=>Je [1] R<|Jg1 (κ:=κ) 3 R R R R R X25 R λb2 w1 K2 S3 f4=>Tv<|Jd<|Je [2,1,1] R<|Jf R (bF (parts:=[(0,.const (vi 1)),(1,.const (vi 1))]) (cells:=[vi 1,vi 1]) R R (by kernel_rfl))<|Jg1 (κ:=K2) 4 R R R R R X25 R λb3 w5 K6 S7 f8=>Tv<|Jj1 (κ:=K6) 4 (vc:=[vi 1,vi 1]) R R R R R R R Z25 R R f8 R λw9 S10 f11=>Tv<|Jd<|Jq<|Jg3 [2,1] 1 R<|Ob h λx6 hx6 h=>?_
 have f12:=g0_0.stp (T3 S3 S7 S10) R R
 refine Jh R R R C28 (cR (κ:=λb=>mp [(2,2)] 0<|K6 b) (p0:=p0) (Jl2 f12 (mp [(2,2)] 0) R R) ((gb0.stp (T3 S3 S7 S10) R R).map (mp [(2,2)] 0) R R) hx6) ?_
 rintro _ w14 ⟨k15,rfl,e16,f17⟩
 obtain⟨K18,S19,m20⟩:=Ji e16 5 R
 refine Tv<|?_
 have f22:=f17.mx m20 R (R:5+2=7)
 refine Jd<|Ob h λq1 h hK23=>Jx1 (λL w'=>∃κ',L=[(0,.pointer (some ⟨b0,0,none⟩)),(2,.pointer (some ⟨b2,0,none⟩)),(3,.pointer (some ⟨b3,0,none⟩))]/\Stp [4,7,10,13] K18 w14 κ' w'/\Bc κ' w' 7 b0 56 [.slice aa p0.b.length ab,vi q1.1,vi q1.2.1]/\Bc κ' w' 4 b3 25 [vi q1.2.2.1,vi q1.2.2.2]) ?_ ?_
 revert h
 cases ht29:x6.1
 refine JF λh=>Jy R<|Js ?_
 cases h
 exact Jw1 _ ⟨K18,R,Jj3,f22,(f11.stp S19 R R)⟩<|KM R
 refine JT λh=>Jx R<|Jh3 [2,1,2,2,1,2,2,1] 1 R<|Ob h λx8 hx8 h=>?_
 have f30:=f12.stp S19 R R
 refine Jh R R R C29 (bU (κ:=λb=>mp [(7,2)] 0<|K18 b) (p0:=(⟨p0.b,x6.2.1,x6.2.2⟩:l1Cur)) (Jl2 f30 (mp [(7,2)] 0) R R) (f22.map (mp [(7,2)] 0) R R) hx8) ?_
 rintro _ w31 ⟨k32,rfl,e33,f34⟩
 obtain⟨K35,S36,m37⟩:=Ji e33 8 R
 refine Tv<|Jn 2 R<|Ob h λx11 hx11 h=>Jh R R R C29 (bU (κ:=λb=>mp [(10,2)] 0<|K35 b) (p0:=(⟨p0.b,x8.2.1,x8.2.2⟩:l1Cur)) (Jl2 (f30.stp S36 R R) (mp [(10,2)] 0) R R) ((f34.mx m37 R (R:8+2=10)).map (mp [(10,2)] 0) R R) hx11) ?_
 rintro _ w41 ⟨k42,rfl,e43,f44⟩
 obtain⟨K45,S46,m47⟩:=Ji e43 11 R
 refine Tv<|Jn 1 R<|Jf R (bF (parts:=[(0,.tmp 9),(1,.tmp 12)]) (cells:=[vi (IntKind.i64.wrap (1+x8.1)),vi<|IntKind.i64.wrap (1+x11.1)]) R R (by kernel_rfl))<|Jj1 (κ:=K45) 4 (vc:=[vi (IntKind.i64.wrap (1+x8.1)),vi<|IntKind.i64.wrap (1+x11.1)]) R R R R R R R Z25 R R (f11.stp (T3 S19 S36 S46) R R) R λw51 S52 f53=>Tv<|Jo ?_
 cases h
 exact Jw1 _ ⟨(λb=>ren [(13,7)]<|K45 b),R,(Jy2 ((T3 S36 S46 S52).wk R) [(13,7)] R),(((f44.mx m47 R (R:11+2=13)).stp S52 R R).map (ren [(13,7)]) R R),(f53.map (ren [(13,7)]) R R)⟩<|KM R
 rintro _ w24 ⟨K25,rfl,S26,f27,f28⟩
 have h:=hK23
 refine Jp<|Jq<|Jg3 [2,1] 1 R<|Ob h λx15 hx15 h=>?_
 have f56:=f12.stp (S19.tr S26) R R
 refine Jh R R R C28 (cR (κ:=λb=>mp [(7,2)] 0<|K25 b) (p0:=(⟨p0.b,q1.1,q1.2.1⟩:l1Cur)) (Jl2 f56 (mp [(7,2)] 0) R R) (f27.map (mp [(7,2)] 0) R R) hx15) ?_
 rintro _ w57 ⟨k58,rfl,e59,f60⟩
 obtain⟨K61,S62,m63⟩:=Ji e59 8 R
 refine Tv<|?_
 have f65:=f60.mx m63 R (R:8+2=10)
 refine Jd<|Ob h λq2 h hK66=>Jx1 (λL w'=>∃κ',L=[(0,.pointer (some ⟨b0,0,none⟩)),(2,.pointer (some ⟨b2,0,none⟩)),(3,.pointer (some ⟨b3,0,none⟩))]/\Stp [4,10,13] K61 w57 κ' w'/\Bc κ' w' 10 b0 56 [.slice aa p0.b.length ab,vi q2.1,vi q2.2.1]/\Bc κ' w' 4 b3 25 [vi q1.2.2.1,vi q2.2.2]) ?_ ?_
 revert h
 cases ht72:x15.1
 refine JF λh=>Jy R<|Js ?_
 cases h
 exact Jw1 _ ⟨K61,R,Jj3,f65,(f28.stp S62 R R)⟩<|KM R
 refine JT λh=>Jx R<|Jh3 [2,1,2,1] 1 R<|Ob h λx17 hx17 h=>Jh R R R C30 (jl (κ:=λb=>mp [(10,2)] 0<|K61 b) (p0:=(⟨p0.b,x15.2.1,x15.2.2⟩:l1Cur)) (Jl2 (f56.stp S62 R R) (mp [(10,2)] 0) R R) (f65.map (mp [(10,2)] 0) R R) hx17) ?_
 rintro _ w74 ⟨k75,rfl,e76,f77⟩
 obtain⟨K78,S79,m80⟩:=Ji e76 11 R
 refine Tv<|Jd3 R U25 R Z2<|Ji1 (κ:=K78) 4 (off:=1) (vc:=[vi x17.1]) (cs':=[vi q1.2.2.1,vi x17.1]) R R R R R R R Z2 R R (f28.stp (S62.tr S79) R R) R R λw84 S85 f86=>Tv<|Jo ?_
 cases h
 exact Jw1 _ ⟨(λb=>ren [(13,10)]<|K78 b),R,(Jy2 ((S79.tr S85).wk R) [(13,10)] R),(((f77.mx m80 R (R:11+2=13)).stp S85 R R).map (ren [(13,10)]) R R),(f86.map (ren [(13,10)]) R R)⟩<|KM R
 rintro _ w67 ⟨K68,rfl,S69,f70,f71⟩
 have h:=hK66
 refine Jp<|Je [1,1] R<|Jl tv R R R R (Jd2 (cs:=[vi q1.2.2.1,vi q2.2.2]) I25 Z25 R R R<|haE f71.cells)<|Jj1 (κ:=K68) 3 (vc:=[vi q1.2.2.1,vi q2.2.2]) R R R R R R R Z25 R R (f4.stp (T6 S7 S10 S19 S26 S62 S69) R R) R λw90 S91 f92=>Tv<|Jd<|Ju<|Ja2 (l:=[.cell 2 25]) V15 (bH R f92 I25 Z25 R R) R ?_
 cases h
 exact⟨(λb=>ren [(10,2)]<|K68 b),R,((hE.stp (T8 S3 S7 S10 S19 S26 S62 S69 S91) R R).map (ren [(10,2)]) R R),((f70.stp S91 R R).map (ren [(10,2)]) R R)⟩
theorem kx {aa ac}{p0:l1Cur}{p1:Int}{b0}(g0_0:Rd (Rp.int .u8) κ w 0 aa ac p0.b) (gb0:Bc κ w 2 b0 56 [.slice aa p0.b.length ac,vi p0.i,vi p0.h]){r:(List Int)×Int×Int}(h:eK p0 p1=some r):Ret Try.prog 69 [.pointer (some ⟨b0,0,none⟩),vi p1] w (λv w'=>∃(κ':Col) (ra0:Option Addr) (ru0:Nat),v= .slice ra0 r.1.length ru0/\Ent κ w κ' w'/\Oc E6 2 κ' w' 3 ra0 ru0 r.1/\Bc κ' w' 2 b0 56 [.slice aa p0.b.length ac,vi r.2.1,vi r.2.2]):=by
 unfold eK at h
 refine Jk3 κ F69 R N69 R λhE=>Je3 R<|Je [1,2] R<|Jo1 (κ:=κ) (E:=E6) 3 R R R R R Y26 a8 R λa7 u7 w1 K2 S3 f4=>Tv<|Jb 1 R<|Jq<|Je3 R<|Ob h λ_ hr5 h=>?_
 have hN5:=lZ hr5
 refine Ob h λq2 hq7 hK6=>?_
 clear h
 refine Jx1 (λL w'=>∃κ',∃s3:(List Int)×Int×Int,∃ah af,L=[(0,.pointer (some ⟨b0,0,none⟩)),(5,.slice ah s3.1.length af)]/\Stp [2,3,6] K2 w1 κ' w'/\Oc E6 2 κ' w' 3 ah af s3.1/\Bc κ' w' 2 b0 56 [.slice aa p0.b.length ac,vi s3.2.1,vi s3.2.2]/\q2=vq s3) ?_ ?_
 refine Jv<|Jy1 (λk L w'=>∃κ' v6,∃s1:(List Int)×Int×Int,∃ad ab,L=[(0,.pointer (some ⟨b0,0,none⟩)),(1,vi p1),(5,.slice ad s1.1.length ab),(6,vi v6)]/\Stp [2,3,6] K2 w1 κ' w'/\Oc E6 2 κ' w' 3 ad ab s1.1/\Bc κ' w' 2 b0 56 [.slice aa p0.b.length ac,vi s1.2.1,vi s1.2.2]/\0<=v6/\vu (p1-v6)=k/\cntM (eb p0) k v6 s1=some q2) ⟨_,_,⟨K2,0,((([]:List Int):(List Int)),p0.i,p0.h),a7,u7,R,Jj3,f4,(gb0.stp S3 R R),(by decide),(by simp),hq7⟩,(KM R)⟩ ?_
 rintro k _ w13 ⟨K14,v6,s1,ad,ab,rfl,S15,f16,f17,hj5,hJ5,h⟩
 rcases k with _ | k
 have hk19:=h;obtain⟨o5,h⟩:=cc (vq (vr s1):((List Int)×Int×Int)⊕(((List Int)×Int×Int)⊕((List Int)×Int×Int)))
 have hc5:decide (v6<p1)=false:=Jo2 (by omega)
 refine Jq<|Je3 R<|Jw2 R hc5<|Jc1<|Jt<|Jt ?_
 cases h
 have h:=hk19
 refine Jb1 ?_
 cases h
 exact Jw1 _ ⟨K14,(s1.1,s1.2.1,s1.2.2),ad,ab,R,S15.wk R,f16,f17,R⟩<|KM R
 obtain⟨o5,h,hk19⟩:=BI h;unfold eb at h
 have hc5:decide (v6<p1)=true:=Jn2 (by omega)
 refine Jq<|Je3 R<|Jv2 R hc5<|Js<|Jp<|Jq<|Jv<|Jg3 [2,1] 1 R<|Ob h λx14 hx14 h=>Jh R R R C28 (cR (κ:=λb=>mp [(2,2)] 0<|K14 b) (p0:=(⟨p0.b,s1.2.1,s1.2.2⟩:l1Cur)) (Jl2 (g0_0.stp (S3.tr S15) R R) (mp [(2,2)] 0) R R) (f17.map (mp [(2,2)] 0) R R) hx14) ?_
 rintro _ w21 ⟨k22,rfl,e23,f24⟩
 obtain⟨K25,S26,m27⟩:=Ji e23 4 R
 refine Tv<|Jd<|Ob h λq4 h hK30=>Jx1 (λL w'=>∃κ' ae ai,L=[(0,.pointer (some ⟨b0,0,none⟩)),(1,vi p1),(5,.slice ae q4.length ai),(6,vi v6)]/\Stp [3] K25 w21 κ' w'/\Oc E6 2 κ' w' 3 ae ai q4) ?_ ?_
 revert h
 cases ht35:x14.1
 refine JF λh=>Jy R<|Js ?_
 cases h
 exact Jw1 _ ⟨K25,ad,ab,R,Jj3,(f16.stp S26 R R)⟩<|KM R
 refine JT λh=>Jx R<|Jh3 [2,2,1,1,2] 2 R<|Jn1 (κ:=K25) (E:=E6) 7 [] (parts:=[(0,.tmp 16)]) (cells:=[vi v6]) (xs:=([v6]:List Int)) R R R R R R Y26 a8 R R R R R R R R R R ⟨[vi v6],[],Zl K25 w21 [],Zl K25 w21 [],R,Zl.sp (l1:=[]) (l2:=[]) R,Zl.sr (l1:=[]) (l2:=[]),R,R⟩ λam al w36 K37 S38 f39=>Tv<|Ob h λx18 hx18 h=>Jm1 (κ:=K37) (E:=E6) 3 [] R R R R R R R R R Y26 a8 R R R R (f16.stp (S26.tr S38) R R) (Sl.srcP (cb _) f39.rdc) bJ hx18 R λak aj w41 K42 S43 f44=>Tv<|Jc 1 R ?_
 cases h
 exact Jw1 _ ⟨K42,ak,aj,R,(S38.tr S43).wk R,f44⟩<|KM R
 rintro _ w31 ⟨K32,ae,ai,rfl,S33,f34⟩
 have h:=hK30
 refine Jz<|Jp<|Jf3 R ?_
 have hw5:sh .i64 (v6+1)=v6+1:=wr1 hj5 (Jm2 hc5) hN5
 rw[hw5]
 have hc5:=Jm2 hc5
 cases h
 exact Jz1 λa ha=>⟨k,_,Ja3 _,⟨(λb=>ren [(6,2)]<|K32 b),v6+1,(q4,x14.2.1,x14.2.2),ae,ai,R,(Jy2 ((T3 S15 S26 S33).wk R) [(6,2)] R),(f34.map (ren [(6,2)]) R R),(((f24.mx m27 R (R:4+2=6)).stp S33 R R).map (ren [(6,2)]) R R),by omega,by omega,hk19⟩,(ha.mm R)⟩
 rintro _ w8 ⟨K9,s3,ah,af,rfl,S10,f11,f12,rfl⟩
 have h:=yI hK6
 refine Jp<|Je3 R<|Ju<|Ja2 (l:=[.tmp 4]) V69 (Jp2 R R) R ?_
 cases h
 exact⟨K9,ah,af,R,(hE.stp (S3.tr S10) R R),f11,f12⟩
theorem lN {aa ab}{p0:l1Cur}{p1:Int}{b0}(g0_0:Rd (Rp.int .u8) κ w 0 aa ab p0.b) (gb0:Bc κ w 2 b0 56 [.slice aa p0.b.length ab,vi p0.i,vi p0.h]){r:Int×Int×Int}(h:jm p0 p1=some r):Ret Try.prog 37 [.pointer (some ⟨b0,0,none⟩),vi p1] w (λv w'=>∃(κ':Col),v=vi r.1/\Ent κ w κ' w'/\Bc κ' w' 2 b0 56 [.slice aa p0.b.length ab,vi r.2.1,vi r.2.2]):=by
 unfold jm at h
 refine Jk3 κ F37 R N37 R λhE=>Je3 R<|Jq<|Jg3 [2,1] 1 R<|Ob h λx6 hx6 h=>Jh R R R C28 (cR (κ:=λb=>mp [(2,2)] 0 (κ b)) (p0:=p0) (Jl2 g0_0 (mp [(2,2)] 0) R R) (gb0.map (mp [(2,2)] 0) R R) hx6) ?_
 rintro _ w1 ⟨k2,rfl,e3,f4⟩
 obtain⟨K5,S6,m7⟩:=Ji e3 3 R
 refine Tv<|?_
 have f9:=f4.mx m7 R (R:3+2=5)
 refine Jd ?_
 revert h
 cases ht10:x6.1
 refine JF λh=>Jy R<|Js<|Jp<|Jq<|Jg3 [2,1] 1 R<|Ob h λx18 hx18 h=>?_
 have f38:=g0_0.stp S6 R R
 refine Jh R R R C28 (cR (κ:=λb=>mp [(5,2)] 0<|K5 b) (p0:=(⟨p0.b,x6.2.1,x6.2.2⟩:l1Cur)) (Jl2 f38 (mp [(5,2)] 0) R R) (f9.map (mp [(5,2)] 0) R R) hx18) ?_
 rintro _ w39 ⟨k40,rfl,e41,f42⟩
 obtain⟨K43,S44,m45⟩:=Ji e41 6 R
 refine Tv<|?_
 have f47:=f42.mx m45 R (R:6+2=8)
 refine Jd ?_
 revert h
 cases ht48:x18.1
 refine JF λh=>Jy R<|Js<|Jp<|Jg3 [2,2,2,1,2] 3 R<|Ob h λx27 hx27 h=>Jh R R R C29 (bU (κ:=λb=>mp [(8,2)] 0<|K43 b) (p0:=(⟨p0.b,x18.2.1,x18.2.2⟩:l1Cur)) (Jl2 (f38.stp S44 R R) (mp [(8,2)] 0) R R) (f47.map (mp [(8,2)] 0) R R) hx27) ?_
 rintro _ w69 ⟨k70,rfl,e71,f72⟩
 obtain⟨K73,S74,m75⟩:=Ji e71 9 R
 refine Tv<|Jb 1 R<|Ju<|Ja2 (l:=[.tmp 4]) V37 (Jp2 R R) R ?_
 cases h
 exact⟨(λb=>ren [(11,2)]<|K73 b),R,((hE.stp (T3 S6 S44 S74) R R).map (ren [(11,2)]) R R),((f72.mx m75 R (R:9+2=11)).map (ren [(11,2)]) R R)⟩
 refine JT λh=>Jx R<|Jg3 [2,2,1,2,1,2] 2 R<|Ob h λx21 hx21 h=>Jh R R R C34 (n5 (κ:=Mk K43) hx21) ?_
 rintro _ w49 ⟨k50,rfl,e51⟩
 obtain⟨K52,S53,m54⟩:=Ji e51 9 R
 refine Tv<|Jn 1 R<|Ob h λx23 hx23 h=>Jh R R R C29 (bU (κ:=λb=>mp [(8,2)] 0<|K52 b) (p0:=(⟨p0.b,x18.2.1,x18.2.2⟩:l1Cur)) (Jl2 (f38.stp (S44.tr S53) R R) (mp [(8,2)] 0) R R) ((f47.stp S53 R R).map (mp [(8,2)] 0) R R) hx23) ?_
 rintro _ w58 ⟨k59,rfl,e60,f61⟩
 obtain⟨K62,S63,m64⟩:=Ji e60 11 R
 refine Tv<|Jb 1 R<|Ju<|Jw<|Ja2 (l:=[.tmp 4]) V37 (Jp2 R R) R ?_
 cases h
 exact⟨(λb=>ren [(13,2)]<|K62 b),R,((hE.stp (T4 S6 S44 S53 S63) R R).map (ren [(13,2)]) R R),((f61.mx m64 R (R:11+2=13)).map (ren [(13,2)]) R R)⟩
 refine JT λh=>Jx R<|Jg3 [2,2,2,2,1,1,2,1,2,1,2] 4 R<|Ob h λx11 hx11 h=>?_
 have f11:=g0_0.stp S6 R R
 refine Jh R R R C38 (nG (κ:=λb=>mp [(5,2)] 0<|K5 b) (p0:=(⟨p0.b,x6.2.1,x6.2.2⟩:l1Cur)) (Jl2 f11 (mp [(5,2)] 0) R R) (f9.map (mp [(5,2)] 0) R R) hx11) ?_
 rintro _ w12 ⟨k13,rfl,e14,f15⟩
 obtain⟨K16,S17,m18⟩:=Ji e14 6 R
 refine Tv<|Jn1 (κ:=K16) (E:=E6) 9 [] (parts:=[(0,.const (vi (-1))),(1,.tmp 7),(2,.tmp 9),(3,.tmp 11)]) (cells:=[vi (-1),vi p1,vi (IntKind.i64.wrap<|p1+1),vi x11.1]) (xs:=([(-1),p1,(IntKind.i64.wrap<|p1+1),x11.1]:List Int)) R R R R R R Y26 a8 R R R R R R R R R R ⟨[vi (-1)],[vi p1,vi (IntKind.i64.wrap<|p1+1),vi x11.1],Zl K16 w12 [],Zl K16 w12 [],R,Zl.sp (l1:=[]) (l2:=[]) R,Zl.sr (l1:=[]) (l2:=[]),R,⟨[vi p1],[vi (IntKind.i64.wrap<|p1+1),vi x11.1],Zl K16 w12 [],Zl K16 w12 [],R,Zl.sp (l1:=[]) (l2:=[]) R,Zl.sr (l1:=[]) (l2:=[]),R,⟨[vi<|IntKind.i64.wrap<|p1+1],[vi x11.1],Zl K16 w12 [],Zl K16 w12 [],R,Zl.sp (l1:=[]) (l2:=[]) R,Zl.sr (l1:=[]) (l2:=[]),R,⟨[vi x11.1],[],Zl K16 w12 [],Zl K16 w12 [],R,Zl.sp (l1:=[]) (l2:=[]) R,Zl.sr (l1:=[]) (l2:=[]),R,R⟩⟩⟩⟩ λac ad w21 K22 S23 f24=>Tv<|Jn 1 R<|Ob h λx14 hx14 h=>Jh R R R C29 (bU (κ:=λb=>mp [(8,2)] 0<|K22 b) (p0:=(⟨p0.b,x11.2.1,x11.2.2⟩:l1Cur)) (Jl2 (f11.stp (S17.tr S23) R R) (mp [(8,2)] 0) R R) (((f15.mx m18 R (R:6+2=8)).stp S23 R R).map (mp [(8,2)] 0) R R) hx14) ?_
 rintro _ w27 ⟨k28,rfl,e29,f30⟩
 obtain⟨K31,S32,m33⟩:=Ji e29 10 R
 refine Tv<|Ob h λx15 hx15 h=>Jc3 R f24.rdc hx15 U26 Z2<|Jb3 R I2 ((f24.stp S32 R R).rdc.gInt hx15)<|Jb 1 R<|Ju<|Jw<|Ja2 (l:=[.tmp 4]) V37 (Jp2 R R) R ?_
 cases h
 exact⟨(λb=>ren [(12,2)]<|K31 b),R,((hE.stp (T4 S6 S17 S23 S32) R R).map (ren [(12,2)]) R R),((f30.mx m33 R (R:10+2=12)).map (ren [(12,2)]) R R)⟩
theorem lI {p0:Sig}{ab ac aa ad}{p1:Clause}(g1_1:Rd (Rp.int .i64) κ w 0 ab ac p1.A) (g1_2:Rd (Rp.int .i64) κ w 0 aa ad p1.B){r:Bool}(h:gx p0 p1=some r):Ret Try.prog 71 [.agg #[vi p0.In,vi p0.Out],.agg #[vi p1.Kind,.slice ab p1.A.length ac,.slice aa p1.B.length ad]] w (Pvb κ w r):=by
 unfold gx at h
 refine Jk3 κ F71 R N71 R λhE=>Je [1,1,2] R<|Jf1 (κ:=κ) 2 R R R R R R R λb2 w1 K2 S3 f4=>Tv<|Jf1 (κ:=K2) 3 R R R R R R R λb3 w5 K6 S7 f8=>Tv<|Jb 1 R<|Jq<|Je [1,1,2,2,2,1,1,2,2] R ?_
 have f9:=f4.stp S7 R R
 refine Jl tv R R R R (Jd2 (cs:=[vi p0.In,vi p0.Out]) I25 Z25 R R R<|haE f9.cells)<|Ob h λx7 hx7 h=>Jh R R R C23 (gB (κ:=Mk K6) (p0:=p0) hx7) ?_
 rintro _ w10 ⟨k11,rfl,e12⟩
 obtain⟨K13,S14,m15⟩:=Ji e12 4 R
 refine Tv<|Jn 2 R<|Ob h λp14 h hK17=>Ju1 [(4,2),(5,1),(6,1),(7,2),(8,2)] [] (λL w'=>L=[(2,.pointer (some ⟨b2,0,none⟩)),(3,.pointer (some ⟨b3,0,none⟩)),(14,.bool p14)]/\∃κ',Stp [] K13 w10 κ' w') tv ?_ ?_
 revert h
 cases ht18:(!x7)
 refine JF λh=>Jd3 R U92 R Z2<|Jb3 R I2 ((f8.stp S14 R R).ld 0 R R)<|Ob h λx12 hx12 h=>Jh R R R C24 (cF (κ:=Mk K13) hx12) ?_
 rintro _ w20 ⟨k21,rfl,e22⟩
 obtain⟨K23,S24,m25⟩:=Ji e22 6 R
 refine Tv<|Jn 2 R ?_
 cases h
 exact Jv1 _ tv ⟨R,_,S24.wk R⟩<|KM R
 refine JT λh=>Jn 1 R<|Jd1 R R R R<|Jd1 R R R R<|Jn 2 R ?_
 cases h
 exact Jv1 _ tv ⟨R,_,Jj3⟩<|KM R
 rintro _ w27 _ ⟨rfl,K28,S29⟩
 have h:=hK17
 refine Jd ?_
 revert h
 cases ht30:p14
 refine JF λh=>Jy R<|Js<|Jp<|Je [1,1,2] R<|Jl tv R R R R (Jd2 (cs:=[vi p0.In,vi p0.Out]) I25 Z25 R R R<|haE (f9.stp (S14.tr S29) R R).cells)<|Ob h λx16 hx16 h=>Jh R R R C54 (dH (κ:=Mk K28) (p0:=p0) hx16) ?_
 rintro _ w33 ⟨k34,rfl,e35⟩
 obtain⟨K36,S37,m38⟩:=Ji e35 6 R
 refine Tv<|Jb 1 R<|Je [2,1,2,1,2,2,1,2,1,2,2,2,1,1,2,2,1,2,2,2,2,2] R<|Jd3 R U92 R Z26 ?_
 have f40:=f8.stp (T3 S14 S29 S37) R R
 refine Jb3 R I26 (f40.ld 1 R R)<|Jn 1 R<|Ob h λx20 hx20 h=>Jh R R R C77 (j6 (κ:=Mk K36) (Ji3<|g1_1.stp (T5 S3 S7 S14 S29 S37) R R) hx20) ?_
 rintro _ w42 ⟨k43,rfl,e44⟩
 obtain⟨K45,S46,m47⟩:=Ji e44 8 R
 refine Tv<|Jn 1 R<|Ob h λp26 h hK49=>Ju1 [(5,2),(6,1),(7,2),(8,1),(9,2)] [(10,2),(11,2),(12,1),(13,1),(14,2),(15,2),(16,1),(17,2),(18,2),(19,2),(20,2),(21,2)] (λL w'=>L=[(3,.pointer (some ⟨b3,0,none⟩)),(26,.bool p26)]/\∃κ',Stp [] K45 w42 κ' w') tv ?_ ?_
 revert h
 cases ht50:x20
 refine JF λh=>Jn 1 R<|Jd1 R R R R<|Jn 1 R<|Jd1 R R R R<|Jn 1 R ?_
 cases h
 exact Jv1 _ tv ⟨R,_,Jj3⟩<|KM R
 refine JT λh=>Jd3 R U92 R Z26<|Jb3 R I26 ((f40.stp S46 R R).ld 2 R R)<|Jn 1 R<|Ob h λx25 hx25 h=>Jh R R R C77 (j6 (κ:=Mk K45) (Ji3<|g1_2.stp (T6 S3 S7 S14 S29 S37 S46) R R) hx25) ?_
 rintro _ w53 ⟨k54,rfl,e55⟩
 obtain⟨K56,S57,m58⟩:=Ji e55 10 R
 refine Tv<|Jn 1 R ?_
 cases h
 exact Jv1 _ tv ⟨R,_,S57.wk R⟩<|KM R
 rintro _ w60 _ ⟨rfl,K61,S62⟩
 have h:=hK49
 refine Jn 1 R<|Ob h λp37 h hK63=>Ju1 [(11,2),(12,1),(13,1),(14,2),(15,2),(16,1),(17,2),(18,2),(19,2),(20,2)] [(21,2)] (λL w'=>L=[(37,.bool p37)]/\∃κ',Stp [] K61 w60 κ' w') tv ?_ ?_
 revert h
 cases ht64:p26
 refine JF λh=>Jn 1 R<|Jd1 R R R R<|Jd1 R R R R<|Jn 2 R<|Jd1 R R R R<|Jn 4 R ?_
 cases h
 exact Jv1 _ tv ⟨R,_,Jj3⟩<|KM R
 refine JT λh=>Jd3 R U92 R Z2 ?_
 have f65:=f40.stp (S46.tr S62) R R
 refine Jb3 R I2 (f65.ld 0 R R)<|Ob h λx30 hx30 h=>Jh R R R C70 (mi (κ:=Mk K61) hx30) ?_
 rintro _ w66 ⟨k67,rfl,e68⟩
 obtain⟨K69,S70,m71⟩:=Ji e68 10 R
 refine Tv<|Jn 1 R<|Ob h λp36 h hK73=>Ju1 [(15,2),(16,1),(17,2),(18,2),(19,2)] [(20,2)] (λL w'=>L=[(27,.bool true),(36,.bool p36)]/\∃κ',Stp [] K69 w66 κ' w') tv ?_ ?_
 revert h
 cases ht74:x30
 refine JF λh=>Jd3 R U92 R Z26<|Jb3 R I26 ((f65.stp S70 R R).ld 2 R R)<|Jn3 R U26 R R<|Jn 2 R ?_
 cases h
 exact Jv1 _ tv ⟨R,_,Jj3⟩<|KM R
 refine JT λh=>Jn 1 R<|Jd1 R R R R<|Jn 3 R ?_
 cases h
 exact Jv1 _ tv ⟨R,_,Jj3⟩<|KM R
 rintro _ w76 _ ⟨rfl,K77,S78⟩
 have h:=hK73
 refine Jn 1 R ?_
 cases h
 exact Jv1 _ tv ⟨R,_,(S70.tr S78).wk R⟩<|KM R
 rintro _ w79 _ ⟨rfl,K80,S81⟩
 have h:=hK63
 refine Jb 1 R<|Ju<|Ja2 (l:=[.tmp 4]) V71 (Jp2 R R) R ?_
 cases h
 exact⟨K80,R,(hE.stp (T8 S3 S7 S14 S29 S37 S46 S62 S81) R R)⟩
 refine JT λh=>Jx R<|Je3 R<|Ju<|Jw<|Ja2 (l:=[.tmp 4]) V71 (Jp2 R R) R ?_
 cases h
 exact⟨K28,R,(hE.stp (T4 S3 S7 S14 S29) R R)⟩
theorem nY {a0 u0}{p0:(List Int)}{p1:Int}(g0:Rd (Rp.int .i64) κ w 0 a0 u0 p0){r:Bool}(h:lA p0 p1=some r):Ret Try.prog 78 [.slice a0 p0.length u0,vi p1] w (Pvb κ w r):=by
 unfold lA at h
 refine Jk3 κ F78 R N78 R λhE=>Je3 R<|Jg3 [2,1,2,2,2,1,2,2] 1 R<|Ob h λx6 hx6 h=>Jh R R R C24 (cF (κ:=Mk κ) hx6) ?_
 rintro _ w1 ⟨k2,rfl,e3⟩
 obtain⟨K4,S5,m6⟩:=Ji e3 2 R
 refine Tv<|Jn 1 R<|Ob h λp11 h hK8=>Ju1 [(3,2),(4,2),(5,1),(6,2)] [(7,2)] (λL w'=>L=[(4,.bool false),(11,.bool p11)]/\∃κ',Stp [] K4 w1 κ' w') tv ?_ ?_
 revert h
 cases ht9:x6
 refine JF λh=>Jn 2 R<|Jd1 R R R R<|Jn 1 R ?_
 cases h
 exact Jv1 _ tv ⟨R,_,Jj3⟩<|KM R
 refine JT λh=>Jn 2 R<|Ob h λx10 hx10 h=>Jh R R R C77 (j6 (κ:=Mk K4) (Ji3<|g0.stp S5 R R) hx10) ?_
 rintro _ w11 ⟨k12,rfl,e13⟩
 obtain⟨K14,S15,m16⟩:=Ji e13 4 R
 refine Tv<|Jn 1 R ?_
 cases h
 exact Jv1 _ tv ⟨R,_,S15.wk R⟩<|KM R
 rintro _ w18 _ ⟨rfl,K19,S20⟩
 have h:=hK8
 refine Jb 1 R<|Ju<|Ja2 (l:=[.tmp 4]) V78 (Jp2 R R) R ?_
 cases h
 exact⟨K19,R,(hE.stp (S5.tr S20) R R)⟩
theorem oB {p0:Sig}{af ae ai ah}{p1:Det}{p2:Int}{p3:Int}(g1_0:Rd (Rp.sl (Rp.int .i64)) κ w 0 af ae p1.Next) (g1_1:Rd Pair.rp κ w 0 ai ah p1.Pairs){r:(List Int)}(h:iZ p0 p1 p2 p3=some r):Ret Try.prog 58 [.agg #[vi p0.In,vi p0.Out],.agg #[.slice af p1.Next.length ae,.slice ai p1.Pairs.length ah],vi p2,vi p3] w (λv w'=>∃(κ':Col) (ra0:Option Addr) (ru0:Nat),v= .slice ra0 r.length ru0/\Ent κ w κ' w'/\Rd (Rp.int .i64) κ' w' 0 ra0 ru0 r):=by
 unfold iZ at h
 refine Jk3 κ F58 R N58 R λhE=>Je [1,1,2] R<|Jf1 (κ:=κ) 2 R R R R R R R λb4 w1 K2 S3 f4=>Tv<|Jf1 (κ:=K2) 3 R R R R R R R λb5 w5 K6 S7 f8=>Tv<|Jb 1 R<|Je [1,2] R<|Jo1 (κ:=K6) (E:=E6) 4 R R R R R Y26 a8 R λaj ak w9 K10 S11 f12=>Tv<|Jb 1 R<|Jq<|Je3 R<|Ob h λq2 hq15 hK14=>?_
 clear h
 obtain⟨K16,S17,z18⟩:=kz K10 w9 4
 refine Jx1 (λL w'=>∃κ',∃s3:(List Int)×Int,∃ad aa,L=[(9,.slice ad s3.1.length aa)]/\Stp [] K16 w9 κ' w'/\Rd (Rp.int .i64) κ' w' 0 ad aa s3.1/\q2=vq s3) ?_ ?_
 refine Jv<|Jy1 (λk L w'=>∃κ',∃s1:(List Int)×Int,∃ac ab,L=[(2,vi p2),(3,vi p3),(4,.pointer (some ⟨b4,0,none⟩)),(5,.pointer (some ⟨b5,0,none⟩)),(9,.slice ac s1.1.length ab),(10,vi s1.2)]/\Stp [] K16 w9 κ' w'/\Rd (Rp.int .i64) κ' w' 0 ac ab s1.1/\bP (eQ p0 p1 p2 p3) k s1=some q2) ⟨_,_,⟨K16,((([]:List Int):(List Int)),(0:Int)),aj,ak,R,Jj3,(Sl.st z18 f12.rdc),hq15⟩,(KM R)⟩ ?_
 rintro k _ w24 ⟨K25,s1,ac,ab,rfl,S26,f27,h⟩
 rcases k with _ | k
 cases h
 obtain⟨o13,h,hk28⟩:=BI h;unfold eQ at h
 refine Jq<|Jg3 [2,2,1,1,2] 1 R<|Jd3 R U25 R Z2 ?_
 have f29:=f4.stp (T4 S7 S11 S17 S26) R R
 refine Jb3 R I2 (f29.ld 1 R R)<|Ob h λx15 hx15 h=>Jh R R R C33 (cQ (κ:=Mk K25) hx15) ?_
 rintro _ w30 ⟨k31,rfl,e32⟩
 obtain⟨K33,S34,m35⟩:=Ji e32 5 R
 refine Tv<|Jb 1 R ?_
 revert h
 cases ht37:decide (s1.2<x15)
 refine JF λh=>Jy R<|Jc1<|Jt<|Jt ?_
 cases h
 have h:=hk28
 refine Jb1 ?_
 cases h
 exact Jw1 _ ⟨K33,(s1.1,s1.2),ac,ab,R,(S26.tr S34).wk R,(f27.stp S34 R R),R⟩<|KM R
 refine JT λh=>Jx R<|Js<|Jp<|Jq<|Jv<|Js1 (κ:=K33) [0,2,3] none [(0,2),(1,2),(3,2),(7,2),(8,2),(2,0),(4,2),(5,0),(6,0),(9,1),(10,2),(11,0),(12,1),(13,2)] [] (by kernel_rfl) (by kernel_rfl) λw39 S38=>Jn 1 R<|Jd3 R U71 R Z27<|Jn 3 R<|Jg R (Jc2 I27 R R<|hvC ((f8.stp (T5 S11 S17 S26 S34 S38) R R).ld 0 R R) R)<|Ob h λx23 hx23 h=>Jc3 R g1_0 hx23 U27 Z26 ?_
 obtain⟨ax23,ux23,f42,hl43⟩:=(g1_0.stp (T7 S3 S7 S11 S17 S26 S34 S38) R R).gSl hx23
 refine Jg R (Jc2 I26 R R<|hvC hl43 R)<|Jg R (Jd2 (cs:=[vi p0.In,vi p0.Out]) I25 Z25 R R R<|haC (f29.stp (S34.tr S38) R R).cells R)<|Ob h λx28 hx28 h=>Jh R R R C48 (lC (κ:=Mk K33) (p0:=p0) hx28) ?_
 rintro _ w45 ⟨k46,rfl,e47⟩
 obtain⟨K48,S49,m50⟩:=Ji e47 7 R
 refine⟨(S49.cl R),Ob h λx29 hx29 h=>Jc3 R f42 hx29 U26 Z2<|Jg R (Jc2 I2 R R<|hvC (f42.gInt hx29) R)<|Ob h λx31 hx31 h=>Jh R R R C76 (qv (κ:=λb=>mp [] 1<|K48 b) (Jl2 (f27.stp (T3 S34 S38 S49) R R) (mp [] 1) R R) hx31) ?_⟩
 rintro _ w53 ⟨k54,al,am,rfl,e55,f56⟩
 obtain⟨K57,S58,m59,z60⟩:=Jj e55 9 R
 refine⟨((S49.tr S58).cl R),Jn 1 R<|Jt1<|Jo<|Jz<|Jp<|Jf3 R ?_⟩
 cases h
 exact Jz1 λa ha=>⟨k,_,Ja3 _,⟨K57,(x31,((IntKind.i64.wrap<|s1.2+1):Int)),al,am,R,(T5 S26 S34 S38 S49 S58).wk R,(f56.mx z60),hk28⟩,(ha.mm R)⟩
 rintro _ w20 ⟨K21,s3,ad,aa,rfl,S22,f23,rfl⟩
 have h:=yI hK14
 refine Jp<|Je3 R<|Ju<|Ja2 (l:=[.tmp 8]) V58 (Jp2 R R) R ?_
 cases h
 exact⟨K21,ad,aa,R,(hE.stp (T5 S3 S7 S11 S17 S22) R R),f23⟩
theorem mt {ac ad aa ab}{p0:Arena}(g0_0:Rd (Rp.int .i64) κ w 0 ac ad p0.Owner) (g0_1:Rd (Rp.sl (Rp.int .i64)) κ w 0 aa ab p0.Next){r:Bool}(h:iz p0=some r):Ret Try.prog 60 [.agg #[.slice ac p0.Owner.length ad,.slice aa p0.Next.length ab]] w (Pvb κ w r):=by
 unfold iz at h
 refine Jk3 κ F60 R N60 R λhE=>Je [1,2] R<|Jf1 (κ:=κ) 2 R R R R R R R λb1 w1 K2 S3 f4=>Tv<|Jb 1 R<|Je [2,1,2,2] R<|Jd3 R U75 R Z26<|Jb3 R I26 (f4.ld 0 R R)<|Jn3 R U26 R R<|Jb 1 R<|Jq<|Jg3 [2,1,2,2,2,1,2,2,1,2,2,2] 1 R<|Ob h λx9 hx9 h=>Jh R R R C24 (cF (κ:=Mk K2) hx9) ?_
 rintro _ w5 ⟨k6,rfl,e7⟩
 obtain⟨K8,S9,m10⟩:=Ji e7 3 R
 refine Tv<|Jn 2 R<|Ob h λp19 h hK12=>Ju1 [(4,2),(5,1),(6,2),(7,2),(8,1),(9,2),(10,2),(11,2)] [] (λL w'=>L=[(1,.pointer (some ⟨b1,0,none⟩)),(3,vi (p0.Owner.length:Int)),(19,.bool p19)]/\∃κ',Stp [] K8 w5 κ' w') tv ?_ ?_
 revert h
 cases ht13:(!x9)
 refine JF λh=>Jd3 R U75 R Z27 ?_
 have f14:=f4.stp S9 R R
 refine Jb3 R I27 (f14.ld 1 R R)<|Jn3 R U27 R R<|Jd3 R U75 R Z26<|Jb3 R I26 (f14.ld 0 R R)<|Jn3 R U26 R R<|Jn 2 R ?_
 cases h
 exact Jv1 _ tv ⟨R,_,Jj3⟩<|KM R
 refine JT λh=>Jn 1 R<|Jd1 R R R R<|Jn 2 R<|Jd1 R R R R<|Jn 3 R ?_
 cases h
 exact Jv1 _ tv ⟨R,_,Jj3⟩<|KM R
 rintro _ w15 _ ⟨rfl,K16,S17⟩
 have h:=hK12
 refine Jd ?_
 revert h
 cases ht18:p19
 refine JF λh=>Jy R<|Js<|Jp<|Jq<|Je3 R ?_
 have hN20:(p0.Owner.length:Int)<=9223372036854775807:=g0_0.len_le
 refine Ob h λq2 hq22 hK21=>?_
 clear h
 refine Jx1 (λL w'=>∃κ',L=[]/\Stp [] K16 w15 κ' w'/\q2=vq ()) ?_ ?_
 refine Jv<|Jy1 (λk L w'=>∃κ' v4,L=[(1,.pointer (some ⟨b1,0,none⟩)),(3,vi (p0.Owner.length:Int)),(4,vi v4)]/\Stp [] K16 w15 κ' w'/\0<=v4/\vu ((p0.Owner.length:Int)-v4)=k/\cntM (gl p0) k v4 ()=some q2) ⟨_,_,⟨K16,0,R,Jj3,(by decide),(by simp),hq22⟩,(KM R)⟩ ?_
 rintro k _ w26 ⟨K27,v4,rfl,S28,hj20,hJ20,h⟩
 rcases k with _ | k
 have hk29:=h;obtain⟨o20,h⟩:=cc (vq (vr ()):Bool⊕((Unit)⊕(Unit)))
 have hc20:decide (v4<(p0.Owner.length:Int))=false:=Jo2 (by omega)
 refine Jq<|Jg3 [2,2,1,2,2] 1 R<|Jd3 R U75 R Z26<|Jb3 R I26 ((f4.stp (T3 S9 S17 S28) R R).ld 0 R R)<|Jn3 R U26 R R<|Jb 1 R<|Jw2 R hc20<|Jc1<|Jt<|Jt ?_
 cases h
 have h:=hk29
 refine Jb1 ?_
 cases h
 exact Jw1 _ ⟨K27,R,S28.wk R,R⟩ KN
 obtain⟨o20,h,hk29⟩:=BI h;unfold gl at h
 have hc20:decide (v4<(p0.Owner.length:Int))=true:=Jn2 (by omega)
 refine Jq<|Jg3 [2,2,1,2,2] 1 R<|Jd3 R U75 R Z26 ?_
 have f31:=f4.stp (T3 S9 S17 S28) R R
 refine Jb3 R I26 (f31.ld 0 R R)<|Jn3 R U26 R R<|Jb 1 R<|Jv2 R hc20<|Js<|Jp<|Jq<|Jv<|Je [2,1,2,2,1,1,2,2,2,1,2,2,1,2,2,2,2,2,1,2,2,1,2,2,2,2,2,1,2,2,1,2,1,2,2] R<|Jd3 R U75 R Z26<|Jb3 R I26 (f31.ld 0 R R)<|Jn 1 R<|Ob h λx30 hx30 h=>Jc3 R g0_0 hx30 U26 Z2<|Jb3 R I2 ((g0_0.stp (T4 S3 S9 S17 S28) R R).gInt hx30)<|Ob h λx32 hx32 h=>Jh R R R C24 (cF (κ:=Mk K27) hx32) ?_
 rintro _ w33 ⟨k34,rfl,e35⟩
 obtain⟨K36,S37,m38⟩:=Ji e35 5 R
 refine Tv<|Jn 2 R<|Ob h λp42 h hK40=>Ju1 [(8,2),(9,1),(10,2),(11,2),(12,1),(13,2),(14,2),(15,2)] [(16,2),(17,2),(18,1),(19,2),(20,2),(21,1),(22,2),(23,2),(24,2),(25,2),(26,2),(27,1),(28,2),(29,2),(30,1),(31,2),(32,1),(33,2),(34,2)] (λL w'=>L=[(1,.pointer (some ⟨b1,0,none⟩)),(3,vi (p0.Owner.length:Int)),(4,vi v4),(42,.bool p42)]/\∃κ',Stp [] K36 w33 κ' w') tv ?_ ?_
 revert h
 cases ht41:(!x32)
 refine JF λh=>Jd3 R U75 R Z27<|Jb3 R I27 ((f31.stp S37 R R).ld 1 R R)<|Jn 1 R<|Ob h λx38 hx38 h=>Jc3 R g0_1 hx38 U27 Z26 ?_
 obtain⟨ax38,ux38,f44,hl45⟩:=(g0_1.stp (T5 S3 S9 S17 S28 S37) R R).gSl hx38
 refine Jb3 R I26 hl45<|Jn3 R U26 R R<|Jn 2 R ?_
 cases h
 exact Jv1 _ tv ⟨R,_,Jj3⟩<|KM R
 refine JT λh=>Jn 1 R<|Jd1 R R R R<|Jn 2 R<|Jd1 R R R R<|Jn 3 R ?_
 cases h
 exact Jv1 _ tv ⟨R,_,Jj3⟩<|KM R
 rintro _ w46 _ ⟨rfl,K47,S48⟩
 have h:=hK40
 refine Jn 1 R<|Ob h λp51 h hK49=>Ju1 [(17,2),(18,1),(19,2),(20,2),(21,1),(22,2),(23,2),(24,2)] [(25,2),(26,2),(27,1),(28,2),(29,2),(30,1),(31,2),(32,1),(33,2),(34,2)] (λL w'=>L=[(1,.pointer (some ⟨b1,0,none⟩)),(3,vi (p0.Owner.length:Int)),(4,vi v4),(51,.bool p51)]/\∃κ',Stp [] K47 w46 κ' w') tv ?_ ?_
 revert h
 cases ht50:p42
 refine JF λh=>Jd3 R U75 R Z27<|Jb3 R I27 ((f31.stp (S37.tr S48) R R).ld 1 R R)<|Jn 1 R<|Ob h λx47 hx47 h=>Jc3 R g0_1 hx47 U27 Z26 ?_
 obtain⟨ax47,ux47,f53,hl54⟩:=(g0_1.stp (T6 S3 S9 S17 S28 S37 S48) R R).gSl hx47
 refine Jb3 R I26 hl54<|Jn3 R U26 R R<|Jn 2 R ?_
 cases h
 exact Jv1 _ tv ⟨R,_,Jj3⟩<|KM R
 refine JT λh=>Jn 1 R<|Jd1 R R R R<|Jn 2 R<|Jd1 R R R R<|Jn 3 R ?_
 cases h
 exact Jv1 _ tv ⟨R,_,Jj3⟩<|KM R
 rintro _ w55 _ ⟨rfl,K56,S57⟩
 have h:=hK49
 refine Jn 1 R<|Ob h λp61 h hK58=>Ju1 [(26,2),(27,1),(28,2),(29,2),(30,1),(31,2),(32,1),(33,2),(34,2)] [] (λL w'=>L=[(1,.pointer (some ⟨b1,0,none⟩)),(3,vi (p0.Owner.length:Int)),(4,vi v4),(61,.bool p61)]/\∃κ',Stp [] K56 w55 κ' w') tv ?_ ?_
 revert h
 cases ht59:p51
 refine JF λh=>Jd3 R U75 R Z27<|Jb3 R I27 ((f31.stp (T3 S37 S48 S57) R R).ld 1 R R)<|Jn 1 R<|Ob h λx56 hx56 h=>Jc3 R g0_1 hx56 U27 Z26 ?_
 obtain⟨ax56,ux56,f62,hl63⟩:=(g0_1.stp (T7 S3 S9 S17 S28 S37 S48 S57) R R).gSl hx56
 refine Jb3 R I26 hl63<|Jn 1 R<|Ob h λx59 hx59 h=>Jh R R R C77 (j6 (κ:=Mk K56) (Ji3 f62) hx59) ?_
 rintro _ w64 ⟨k65,rfl,e66⟩
 obtain⟨K67,S68,m69⟩:=Ji e66 7 R
 refine Tv<|Jn 2 R ?_
 cases h
 exact Jv1 _ tv ⟨R,_,S68.wk R⟩<|KM R
 refine JT λh=>Jn 1 R<|Jd1 R R R R<|Jn 2 R<|Jd1 R R R R<|Jn 1 R<|Jd1 R R R R<|Jn 2 R ?_
 cases h
 exact Jv1 _ tv ⟨R,_,Jj3⟩<|KM R
 rintro _ w71 _ ⟨rfl,K72,S73⟩
 have h:=hK58
 refine Jd ?_
 revert h
 cases ht74:p61
 refine JF λh=>Jy R<|Js<|Jz<|Jp<|Jf3 R ?_
 have hw20:sh .i64 (v4+1)=v4+1:=wr1 hj20 (Jm2 hc20) hN20
 rw[hw20]
 have hc20:=Jm2 hc20
 cases h
 exact Jz1 λa ha=>⟨k,_,Ja3 _,⟨K72,v4+1,R,(T5 S28 S37 S48 S57 S73).wk R,by omega,by omega,hk29⟩,(ha.mm R)⟩
 refine JT λh=>Jx R<|Je3 R<|Ju<|Ja1<|Jw<|Jw ?_
 cases h
 obtain rfl:=Option.some.inj hk29
 have h:=yL hK21
 refine Ja1<|Jq2<|Jw<|Ja2 (l:=[.tmp 2]) V60 (Jp2 R R) R ?_
 cases h
 exact⟨K72,R,(hE.stp (T8 S3 S9 S17 S28 S37 S48 S57 S73) R R)⟩
 rintro _ w23 ⟨K24,rfl,S25,rfl⟩
 have h:=yI hK21
 refine Jp<|Je3 R<|Ju<|Ja2 (l:=[.tmp 2]) V60 (Jp2 R R) R ?_
 cases h
 exact⟨K24,R,(hE.stp (T4 S3 S9 S17 S25) R R)⟩
 refine JT λh=>Jx R<|Je3 R<|Ju<|Jw<|Ja2 (l:=[.tmp 2]) V60 (Jp2 R R) R ?_
 cases h
 exact⟨K16,R,(hE.stp (T3 S3 S9 S17) R R)⟩
theorem nP (n:Nat):∀{w:World}{κ:Col}{af ak aj am ae al ad ai ac ah}{p0:l7Game}{a1 u1}{p1:(List Bool)}(g0_0:Rd (Rp.int .i64) κ w 0 af ak p0.owner) (g0_1:Rd (Rp.int .i64) κ w 0 aj am p0.prio) (g0_2:Rd (Rp.sl (Rp.int .i64)) κ w 0 ae al p0.next) (g0_3:Rd (Rp.sl (Rp.int .i64)) κ w 0 ad ai p0.prev) (g0_4:Rd (Rp.int .i64) κ w 0 ac ah p0.pick) (g1:Rd Rp.bool κ w 0 a1 u1 p1){r:(List Bool)}(h:ji n p0 p1=some r),Ret Try.prog 93 [.agg #[.slice af p0.owner.length ak,.slice aj p0.prio.length am,.slice ae p0.next.length al,.slice ad p0.prev.length ai,.slice ac p0.pick.length ah],.slice a1 p1.length u1] w (Pvs Ep.bool 4 κ w r):=by
 induction n with
 | zero=>
  intro w κ af ak aj am ae al ad ai ac ah p0 a1 u1 p1 g0_0 g0_1 g0_2 g0_3 g0_4 g1 r h
  cases h
 | succ n ih=>
  intro w κ af ak aj am ae al ad ai ac ah p0 a1 u1 p1 g0_0 g0_1 g0_2 g0_3 g0_4 g1 r h
  have h:gF (ji n) p0 p1=some r:=h
  unfold gF at h
  refine Jk3 κ F93 R N93 R λhE=>Je [1,2] R<|Jf1 (κ:=κ) 2 R R R R R R R λb2 w1 K2 S3 f4=>Tv<|Jb 1 R<|Je [1,2,1,2] R<|Jl tv R R R R (Jd2 (cs:=[.slice af p0.owner.length ak,.slice aj p0.prio.length am,.slice ae p0.next.length al,.slice ad p0.prev.length ai,.slice ac p0.pick.length ah]) I121 Z121 R R R<|haE f4.cells)<|Jn 1 R<|Ob h λx21 hx21 h=>?_
  have f5:=g0_0.stp S3 R R
  have f6:=g0_1.stp S3 R R
  have f7:=g0_2.stp S3 R R
  have f8:=g0_3.stp S3 R R
  have f9:=g0_4.stp S3 R R
  have f10:=g1.stp S3 R R
  refine Jh R R R C97 (qP (κ:=Mk K2) (p0:=p0) (Ji3 f5) (Ji3 f6) (Ji3 f7) (Ji3 f8) (Ji3 f9) (Ji3 f10) hx21) ?_
  rintro _ w11 ⟨k12,rfl,e13⟩
  obtain⟨K14,S15,m16⟩:=Ji e13 3 R
  refine Tv<|Jb 1 R<|Jg3 [2,2,1,2] 1 R<|Jn3 R U123 R R<|Ob h λx24 hx24 h=>Jl1 (κ:=K14) (E:=Ep.bool) (z:=(false:Bool)) 5 R R R R R R R Y123 i7 R R R R R (λ_ _ _=>R) (Ju2 hx24) λab aa w18 K19 S20 f21=>Tv<|Jb 1 R<|Jq<|Je3 R ?_
  revert h
  cases ht22:decide (x21<0)
  refine JF λh=>Jy R<|Js<|Jp<|Jg3 [2,2,2] 1 R<|Jf R (nC R R R (by decide))<|Jb 1 R<|Jg3 [2,2,1,2] 1 R<|Jn3 R U123 R R<|Ob h λx32 hx32 h=>Jl1 (κ:=K19) (E:=Ep.bool) (z:=(false:Bool)) 6 R R R R R R R Y123 i7 R R R R R (λ_ _ _=>R) (Ju2 hx32) λap aq w24 K25 S26 f27=>Tv<|Jb 1 R<|Jq<|Je3 R ?_
  have hN28:(p1.length:Int)<=9223372036854775807:=f10.len_le
  refine Ob h λq2 hq30 hK29=>?_
  clear h
  refine Jx1 (λL w'=>∃κ',∃s3:(List Bool),L=[(1,.slice a1 p1.length u1),(2,.pointer (some ⟨b2,0,none⟩)),(6,.slice ab x24.length aa),(7,vi<|Int.tmod x21 2),(8,.slice ap x32.length aq)]/\Stp [6] K25 w24 κ' w'/\Oc Ep.bool 4 κ' w' 6 ap aq s3/\x32.length=s3.length/\q2=vq s3) ?_ ?_
  refine Jv<|Jy1 (λk L w'=>∃κ' v9,∃s1:(List Bool),L=[(1,.slice a1 p1.length u1),(2,.pointer (some ⟨b2,0,none⟩)),(5,vi x21),(6,.slice ab x24.length aa),(7,vi<|Int.tmod x21 2),(8,.slice ap x32.length aq),(9,vi v9)]/\Stp [6] K25 w24 κ' w'/\Oc Ep.bool 4 κ' w' 6 ap aq s1/\x32.length=s1.length/\0<=v9/\vu ((p1.length:Int)-v9)=k/\cntM (iM p0 p1 x21) k v9 s1=some q2) ⟨_,_,⟨K25,0,x32,R,Jj3,f27,R,(by decide),(by simp),hq30⟩,(KM R)⟩ ?_
  rintro k _ w36 ⟨K37,v9,s1,rfl,S38,f39,hn40,hj28,hJ28,h⟩
  rcases k with _ | k
  have hk41:=h;obtain⟨o28,h⟩:=cc (vq (vr s1):(List Bool)⊕(((List Bool))⊕((List Bool))))
  have hc28:decide (v9<(p1.length:Int))=false:=Jo2 (by omega)
  refine Jq<|Jg3 [2,2,2,2] 2 R<|Jn3 R U123 R R<|Jb 1 R<|Jw2 R hc28<|Jc1<|Jt<|Jt ?_
  cases h
  have h:=hk41
  refine Jb1 ?_
  cases h
  exact Jw1 _ ⟨K37,s1,R,S38.wk R,f39,hn40,R⟩<|KM R
  obtain⟨o28,h,hk41⟩:=BI h;unfold iM at h
  have hc28:decide (v9<(p1.length:Int))=true:=Jn2 (by omega)
  refine Jq<|Jg3 [2,2,2,2] 2 R<|Jn3 R U123 R R<|Jb 1 R<|Jv2 R hc28<|Js<|Jp<|Jq<|Jv<|Jh3 [2,2,2,2,2,1,2,2,1,2,2,1,2,2,2,2,1] 4 R<|Ob h λx43 hx43 h=>Jc3 R f10 hx43 U123 Z4<|Jb3 R I4 ((f10.stp (T4 S15 S20 S26 S38) R R).gBool hx43)<|Jn 1 R<|Ob h λp53 h hK43=>Ju1 [(7,2),(8,1),(9,2),(10,2),(11,1),(12,2),(13,2),(14,2)] [(15,2),(16,1)] (λL w'=>L=[(1,.slice a1 p1.length u1),(2,.pointer (some ⟨b2,0,none⟩)),(5,vi x21),(6,.slice ab x24.length aa),(7,vi<|Int.tmod x21 2),(8,.slice ap x32.length aq),(9,vi v9),(39,.slice ap x32.length aq),(40,vi v9),(53,.bool p53)]/\∃κ',Stp [] K37 w36 κ' w') tv ?_ ?_
  revert h
  cases ht44:x43
  refine JF λh=>Jn 1 R<|Jd1 R R R R<|Jn 2 R<|Jd1 R R R R<|Jn 3 R ?_
  cases h
  exact Jv1 _ tv ⟨R,_,Jj3⟩<|KM R
  have S001:=(T4 S15 S20 S26 S38)
  refine JT λh=>Jd3 R U121 R Z26<|Jb3 R I26 ((f4.stp S001 R R).ld 1 R R)<|Jn 1 R<|Ob h λx49 hx49 h=>Jc3 R f6 hx49 U26 Z2<|Jb3 R I2 ((f6.stp S001 R R).gInt hx49)<|Jn 3 R ?_
  cases h
  exact Jv1 _ tv ⟨R,_,Jj3⟩<|KM R
  rintro _ w47 _ ⟨rfl,K48,S49⟩
  have h:=hK43
  refine Ob h λx54 hx54 h=>Jf R (Jf2 f39.rdc hx54 U123 Z4 R R hn40 R)<|Ob h λy227 hy227 h=>Jk1 (κ:=K48) (E:=Ep.bool) 6 [] R R R R R R R R Z4 R R R R (f39.stp S49 R R) hy227 λw51 K52 S53 f54=>Tv<|?_
  have hn55:x32.length=y227.length:=hn40.trans (Jt2 hy227).2.2.2.symm
  refine Jo<|Jz<|Jp<|Jf3 R ?_
  have hw28:sh .i64 (v9+1)=v9+1:=wr1 hj28 (Jm2 hc28) hN28
  rw[hw28]
  have hc28:=Jm2 hc28
  cases h
  exact Jz1 λa ha=>⟨k,_,Ja3 _,⟨K52,v9+1,y227,R,(T3 S38 S49 S53).wk R,f54,hn55,by omega,by omega,hk41⟩,(ha.mm R)⟩
  rintro _ w31 ⟨K32,s3,rfl,S33,f34,hn35,rfl⟩
  have h:=yI hK29
  refine Jp<|Jg3 [2,1,2,2,2,1,1,2] 1 R ?_
  have f56:=f4.stp (T4 S15 S20 S26 S33) R R
  refine Jl tv R R R R (Jd2 (cs:=[.slice af p0.owner.length ak,.slice aj p0.prio.length am,.slice ae p0.next.length al,.slice ad p0.prev.length ai,.slice ac p0.pick.length ah]) I121 Z121 R R R<|haE f56.cells)<|Jn 3 R<|Ob h λx60 hx60 h=>?_
  have f57:=f5.stp (T4 S15 S20 S26 S33) R R
  have f58:=f6.stp (T4 S15 S20 S26 S33) R R
  have f59:=f7.stp (T4 S15 S20 S26 S33) R R
  have f60:=f8.stp (T4 S15 S20 S26 S33) R R
  have f61:=f9.stp (T4 S15 S20 S26 S33) R R
  have f62:=f10.stp (T4 S15 S20 S26 S33) R R
  refine Jh R R R C99 (Ret.cast (by simp only[hn35,List.cons_append,List.nil_append])<|kP (κ:=Mk K32) (p0:=p0) (Ji3 f57) (Ji3 f58) (Ji3 f59) (Ji3 f60) (Ji3 f61) (Ji3 f62) (Ji3 f34.rdc) hx60) ?_
  rintro _ w63 ⟨k64,aD,aC,rfl,e65,f66⟩
  obtain⟨K67,S68,m69⟩:=Ji e65 7 R
  refine Tv<|Ob h λx61 hx61 h=>?_
  have f72:=f62.stp S68 R R
  refine Jh R R R C98 (mY (κ:=Mk K67) (Ji3 f72) (Ji3 (f66.mx fF m69 R (R:7+2=9)).rdc) hx61) ?_
  rintro _ w73 ⟨k74,aA,av,rfl,e75,f76⟩
  obtain⟨K77,S78,m79⟩:=Ji e75 10 R
  refine Tv<|?_
  have f81:=f76.mx fF m79 R (R:10+2=12)
  refine Jb 1 R<|Je [1,2,1,2] R ?_
  have f82:=f56.stp (S68.tr S78) R R
  refine Jl tv R R R R (Jd2 (cs:=[.slice af p0.owner.length ak,.slice aj p0.prio.length am,.slice ae p0.next.length al,.slice ad p0.prev.length ai,.slice ac p0.pick.length ah]) I121 Z121 R R R<|haE f82.cells)<|Jn 1 R<|Ob h λx64 hx64 h=>?_
  have f83:=f57.stp (S68.tr S78) R R
  have f84:=f58.stp (S68.tr S78) R R
  have f85:=f59.stp (S68.tr S78) R R
  have f86:=f60.stp (S68.tr S78) R R
  have f87:=f61.stp (S68.tr S78) R R
  refine Jh R R R C93 (ih (κ:=Mk K77) (p0:=p0) (Ji3 f83) (Ji3 f84) (Ji3 f85) (Ji3 f86) (Ji3 f87) (Ji3 f81.rdc) hx64) ?_
  rintro _ w88 ⟨k89,ay,ax,rfl,e90,f91⟩
  obtain⟨K92,S93,m94⟩:=Ji e90 13 R
  refine Tv<|?_
  have f96:=f91.mx fF m94 R (R:13+2=15)
  refine Jb 1 R<|Jg3 [2,2,1,2] 1 R<|Jn3 R U123 R R<|Ob h λx67 hx67 h=>Jl1 (κ:=K92) (E:=Ep.bool) (z:=(false:Bool)) 16 R R R R R R R Y123 i7 R R R R R (λ_ _ _=>R) (Ju2 hx67) λan ao w97 K98 S99 f100=>Tv<|Jb 1 R<|Je3 R<|Jq<|Je3 R ?_
  have hN101:(p1.length:Int)<=9223372036854775807:=f72.len_le
  refine Ob h λq5 hq103 hK102=>?_
  clear h
  refine Jx1 (λL w'=>∃κ',∃s6:Bool×(List Bool),L=[(1,.slice a1 p1.length u1),(2,.pointer (some ⟨b2,0,none⟩)),(6,.slice ab x24.length aa),(7,vi<|Int.tmod x21 2),(12,.slice an x67.length ao),(13,.bool s6.1)]/\Stp [16] K98 w97 κ' w'/\Oc Ep.bool 4 κ' w' 16 an ao s6.2/\x67.length=s6.2.length/\q5=vq s6) ?_ ?_
  refine Jv<|Jy1 (λk L w'=>∃κ' v14,∃s4:Bool×(List Bool),L=[(1,.slice a1 p1.length u1),(2,.pointer (some ⟨b2,0,none⟩)),(6,.slice ab x24.length aa),(7,vi<|Int.tmod x21 2),(10,.slice aA x61.length av),(11,.slice ay x64.length ax),(12,.slice an x67.length ao),(13,.bool s4.1),(14,vi v14)]/\Stp [16] K98 w97 κ' w'/\Oc Ep.bool 4 κ' w' 16 an ao s4.2/\x67.length=s4.2.length/\0<=v14/\vu ((p1.length:Int)-v14)=k/\cntM (gt x21 x61 x64) k v14 s4=some q5) ⟨_,_,⟨K98,0,(false,x67),R,Jj3,f100,R,(by decide),(by simp),hq103⟩,(KM R)⟩ ?_
  rintro k _ w109 ⟨K110,v14,s4,rfl,S111,f112,hn113,hj101,hJ101,h⟩
  rcases k with _ | k
  have hk114:=h;obtain⟨o101,h⟩:=cc (vq (vr s4):(List Bool)⊕((Bool×(List Bool))⊕(Bool×(List Bool))))
  have hc101:decide (v14<(p1.length:Int))=false:=Jo2 (by omega)
  refine Jq<|Jg3 [2,2,2,2] 2 R<|Jn3 R U123 R R<|Jb 1 R<|Jw2 R hc101<|Jc1<|Jt<|Jt ?_
  cases h
  have h:=hk114
  refine Jb1 ?_
  cases h
  exact Jw1 _ ⟨K110,(s4.1,s4.2),R,S111.wk R,f112,hn113,R⟩<|KM R
  obtain⟨o101,h,hk114⟩:=BI h;unfold gt at h
  have hc101:decide (v14<(p1.length:Int))=true:=Jn2 (by omega)
  refine Jq<|Jg3 [2,2,2,2] 2 R<|Jn3 R U123 R R<|Jb 1 R<|Jv2 R hc101<|Js<|Jp<|Jq<|Jv<|Jg3 [2,2,2,2,2,1,2,2,2,2,1,2,2,2,2,2,1] 4 R<|Ob h λx78 hx78 h=>Jc3 R f81.rdc hx78 U123 Z4<|Jb3 R I4 ((f81.stp (T3 S93 S99 S111) R R).rdc.gBool hx78)<|Jn 1 R<|Ob h λp88 h hK116=>Ju1 [(7,2),(8,2),(9,2),(10,1),(11,2),(12,2),(13,2),(14,2)] [(15,2),(16,1)] (λL w'=>L=[(1,.slice a1 p1.length u1),(2,.pointer (some ⟨b2,0,none⟩)),(6,.slice ab x24.length aa),(7,vi<|Int.tmod x21 2),(10,.slice aA x61.length av),(11,.slice ay x64.length ax),(12,.slice an x67.length ao),(13,.bool s4.1),(14,vi v14),(74,.slice an x67.length ao),(75,vi v14),(88,.bool p88)]/\∃κ',Stp [] K110 w109 κ' w') tv ?_ ?_
  revert h
  cases ht117:x78
  refine JF λh=>Jn 3 R<|Jd1 R R R R<|Jn 4 R ?_
  cases h
  exact Jv1 _ tv ⟨R,_,Jj3⟩<|KM R
  refine JT λh=>Jn 2 R<|Ob h λx83 hx83 h=>Jc3 R f96.rdc hx83 U123 Z4<|Jb3 R I4 ((f96.stp (S99.tr S111) R R).rdc.gBool hx83)<|Jn 2 R<|Jf R (pM R R U4 R)<|Jn 1 R ?_
  cases h
  exact Jv1 _ tv ⟨R,_,Jj3⟩<|KM R
  rintro _ w119 _ ⟨rfl,K120,S121⟩
  have h:=hK116
  refine Ob h λx89 hx89 h=>Jf R (Jf2 f112.rdc hx89 U123 Z4 R R hn113 R)<|Ob h λy246 hy246 h=>Jk1 (κ:=K120) (E:=Ep.bool) 16 [] R R R R R R R R Z4 R R R R (f112.stp S121 R R) hy246 λw123 K124 S125 f126=>Tv<|?_
  have hn127:x67.length=y246.length:=hn113.trans (Jt2 hy246).2.2.2.symm
  refine Jd<|Jh3 [2,2,2,2,2,1,2,2] 2 R<|Ob h λp96 h hK128=>Ju1 [(2,2),(3,2),(4,2),(5,1),(6,2)] [(7,2)] (λL w'=>L=[(1,.slice a1 p1.length u1),(2,.pointer (some ⟨b2,0,none⟩)),(6,.slice ab x24.length aa),(7,vi<|Int.tmod x21 2),(10,.slice aA x61.length av),(11,.slice ay x64.length ax),(12,.slice an x67.length ao),(13,.bool s4.1),(14,vi v14),(96,.bool p96)]/\∃κ',Stp [] K124 w123 κ' w') tv ?_ ?_
  revert h
  cases ht129:s4.1
  refine JF λh=>Jn 2 R<|Ob h λx94 hx94 h=>Jf R (Jf2 f126.rdc hx94 U123 Z4 R R hn127 R)<|Jb3 R I4 (f126.rdc.gBool hx94)<|Jn 1 R ?_
  cases h
  exact Jv1 _ tv ⟨R,_,Jj3⟩<|KM R
  refine JT λh=>Jn 3 R<|Jd1 R R R R<|Jn 1 R ?_
  cases h
  exact Jv1 _ tv ⟨R,_,Jj3⟩<|KM R
  rintro _ w130 _ ⟨rfl,K131,S132⟩
  have h:=hK128
  refine Jc 1 R<|Jz<|Jp<|Jf3 R ?_
  have hw101:sh .i64 (v14+1)=v14+1:=wr1 hj101 (Jm2 hc101) hN101
  rw[hw101]
  have hc101:=Jm2 hc101
  cases h
  exact Jz1 λa ha=>⟨k,_,Ja3 _,⟨K131,v14+1,(p96,y246),R,(T4 S111 S121 S125 S132).wk R,(f126.stp S132 R R),hn127,by omega,by omega,hk114⟩,(ha.mm R)⟩
  rintro _ w104 ⟨K105,s6,rfl,S106,f107,hn108,rfl⟩
  have h:=yI hK102
  refine Jp<|Jq<|Je3 R ?_
  revert h
  cases ht134:(!s6.1)
  refine JF λh=>Jy R<|Js<|Jp<|Je [1,2,2,2,2,1,2] R ?_
  have f163:=f82.stp (T3 S93 S99 S106) R R
  refine Jl tv R R R R (Jd2 (cs:=[.slice af p0.owner.length ak,.slice aj p0.prio.length am,.slice ae p0.next.length al,.slice ad p0.prev.length ai,.slice ac p0.pick.length ah]) I121 Z121 R R R<|haE f163.cells)<|Jn 4 R<|Ob h λx122 hx122 h=>?_
  have f164:=f83.stp (T3 S93 S99 S106) R R
  have f165:=f84.stp (T3 S93 S99 S106) R R
  have f166:=f85.stp (T3 S93 S99 S106) R R
  have f167:=f86.stp (T3 S93 S99 S106) R R
  have f168:=f87.stp (T3 S93 S99 S106) R R
  have f169:=f72.stp (T4 S78 S93 S99 S106) R R
  refine Jh R R R C99 (Ret.cast (by simp only[hn108,List.cons_append,List.nil_append])<|kP (κ:=Mk K105) (p0:=p0) (Ji3 f164) (Ji3 f165) (Ji3 f166) (Ji3 f167) (Ji3 f168) (Ji3 f169) (Ji3 f107.rdc) hx122) ?_
  rintro _ w170 ⟨k171,ar,au,rfl,e172,f173⟩
  obtain⟨K174,S175,m176⟩:=Ji e172 17 R
  refine Tv<|Jb 1 R<|Jq<|Js1 (κ:=K174) [2] none [(1,2),(2,2),(0,0),(3,1),(4,1),(5,2)] [] (by kernel_rfl) (by kernel_rfl) λw180 S179=>Jn 2 R<|Jg R (Jd2 (cs:=[.slice af p0.owner.length ak,.slice aj p0.prio.length am,.slice ae p0.next.length al,.slice ad p0.prev.length ai,.slice ac p0.pick.length ah]) I121 Z121 R R R<|haC (f163.stp (S175.tr S179) R R).cells R)<|Ob h λx126 hx126 h=>?_
  have f182:=f169.stp (S175.tr S179) R R
  have f183:=(f173.mx fF m176 R (R:17+2=19)).stp S179 R R
  refine Jh R R R C98 (mY (κ:=Mk K174) (Ji3 f182) (Ji3 f183.rdc) hx126) ?_
  rintro _ w184 ⟨k185,aE,aB,rfl,e186,f187⟩
  obtain⟨K188,S189,m190⟩:=Ji e186 20 R
  have S002:=(T3 S175 S179 S189)
  refine⟨(S189.cl R),Ob h λx127 hx127 h=>Jh R R R C93 (ih (κ:=Mk K188) (p0:=p0) (Ji3<|f164.stp S002 R R) (Ji3<|f165.stp S002 R R) (Ji3<|f166.stp S002 R R) (Ji3<|f167.stp S002 R R) (Ji3<|f168.stp S002 R R) (Ji3 (f187.mx fF m190 R (R:20+2=22)).rdc) hx127) ?_⟩
  rintro _ w198 ⟨k199,az,aw,rfl,e200,f201⟩
  obtain⟨K202,S203,m204⟩:=Ji e200 23 R
  refine⟨((S189.tr S203).cl R),?_⟩
  have f206:=f201.mx fF m204 R (R:23+2=25)
  refine Jn 1 R<|Jt1<|Jd<|Jq<|Je3 R ?_
  have hN207:(p1.length:Int)<=9223372036854775807:=f182.len_le
  refine Ob h λq11 hq209 hK208=>?_
  clear h
  refine Jx1 (λL w'=>∃κ',∃s12:(List Bool),L=[(6,.slice ab x24.length aa)]/\Stp [5] K202 w198 κ' w'/\Oc Ep.bool 4 κ' w' 5 ab aa s12/\x24.length=s12.length/\q11=vq s12) ?_ ?_
  refine Jv<|Jy1 (λk L w'=>∃κ' v18,∃s10:(List Bool),L=[(1,.slice a1 p1.length u1),(6,.slice ab x24.length aa),(7,vi<|Int.tmod x21 2),(16,.slice ar x122.length au),(17,.slice az x127.length aw),(18,vi v18)]/\Stp [5] K202 w198 κ' w'/\Oc Ep.bool 4 κ' w' 5 ab aa s10/\x24.length=s10.length/\0<=v18/\vu ((p1.length:Int)-v18)=k/\cntM (iV x21 x122 x127) k v18 s10=some q11) ⟨_,_,⟨K202,0,x24,R,Jj3,(f21.stp (T11 S26 S33 S68 S78 S93 S99 S106 S175 S179 S189 S203) R R),R,(by decide),(by simp),hq209⟩,(KM R)⟩ ?_
  rintro k _ w215 ⟨K216,v18,s10,rfl,S217,f218,hn219,hj207,hJ207,h⟩
  rcases k with _ | k
  have hk221:=h;obtain⟨o207,h⟩:=cc (vq (vr s10):(List Bool)⊕(((List Bool))⊕((List Bool))))
  have hc207:decide (v18<(p1.length:Int))=false:=Jo2 (by omega)
  refine Jq<|Jg3 [2,2,2,2] 2 R<|Jn3 R U123 R R<|Jb 1 R<|Jw2 R hc207<|Jc1<|Jt<|Jt ?_
  cases h
  have h:=hk221
  refine Jb1 ?_
  cases h
  exact Jw1 _ ⟨K216,s10,R,S217.wk R,f218,hn219,R⟩<|KM R
  obtain⟨o207,h,hk221⟩:=BI h;unfold iV at h
  have hc207:decide (v18<(p1.length:Int))=true:=Jn2 (by omega)
  refine Jq<|Jg3 [2,2,2,2] 2 R<|Jn3 R U123 R R<|Jb 1 R<|Jv2 R hc207<|Js<|Jp<|Jq<|Jv<|Jh3 [2,2,2,2,2,1,2,2,2,2,1,2,2,2,2,2,2,1] 4 R<|Ob h λx138 hx138 h=>Jc3 R f206.rdc hx138 U123 Z4<|Jb3 R I4 ((f206.stp S217 R R).rdc.gBool hx138)<|Jn 1 R<|Ob h λp149 h hK223=>Ju1 [(7,2),(8,2),(9,2),(10,1),(11,2),(12,2),(13,2),(14,2),(15,2)] [(16,2),(17,1)] (λL w'=>L=[(1,.slice a1 p1.length u1),(6,.slice ab x24.length aa),(7,vi<|Int.tmod x21 2),(16,.slice ar x122.length au),(17,.slice az x127.length aw),(18,vi v18),(134,.slice ab x24.length aa),(135,vi v18),(149,.bool p149)]/\∃κ',Stp [] K216 w215 κ' w') tv ?_ ?_
  revert h
  cases ht224:x138
  refine JF λh=>Jn 2 R<|Ob h λx143 hx143 h=>Jc3 R f183.rdc hx143 U123 Z4<|Jb3 R I4 ((f183.stp (T3 S189 S203 S217) R R).rdc.gBool hx143)<|Jn 1 R<|Ob h λp148 h hK226=>Ju1 [(12,2),(13,2),(14,2)] [(15,2)] (λL w'=>L=[(1,.slice a1 p1.length u1),(6,.slice ab x24.length aa),(7,vi<|Int.tmod x21 2),(16,.slice ar x122.length au),(17,.slice az x127.length aw),(18,vi v18),(134,.slice ab x24.length aa),(135,vi v18),(140,.bool false),(141,.slice ar x122.length au),(142,vi v18),(143,.pointer (some<|aAt ar<|v18.toNat * 1)),(144,.bool x143),(145,.bool x143),(148,.bool p148)]/\∃κ',Stp [] K216 w215 κ' w') tv ?_ ?_
  revert h
  cases ht227:x143
  refine JF λh=>Jn 3 R ?_
  cases h
  exact Jv1 _ tv ⟨R,_,Jj3⟩<|KM R
  refine JT λh=>Jn 3 R ?_
  cases h
  exact Jv1 _ tv ⟨R,_,Jj3⟩<|KM R
  rintro _ w228 _ ⟨rfl,K229,S230⟩
  have h:=hK226
  refine Jn 1 R ?_
  cases h
  exact Jv1 _ tv ⟨R,_,S230.wk R⟩<|KM R
  refine JT λh=>Jn 3 R<|Jd1 R R R R<|Jn 5 R ?_
  cases h
  exact Jv1 _ tv ⟨R,_,Jj3⟩<|KM R
  rintro _ w231 _ ⟨rfl,K232,S233⟩
  have h:=hK223
  refine Ob h λx150 hx150 h=>Jf R (Jf2 f218.rdc hx150 U123 Z4 R R hn219 R)<|Ob h λy251 hy251 h=>Jk1 (κ:=K232) (E:=Ep.bool) 5 [] R R R R R R R R Z4 R R R R (f218.stp S233 R R) hy251 λw235 K236 S237 f238=>Tv<|?_
  have hn239:x24.length=y251.length:=hn219.trans (Jt2 hy251).2.2.2.symm
  refine Jo<|Jz<|Jp<|Jf3 R ?_
  have hw207:sh .i64 (v18+1)=v18+1:=wr1 hj207 (Jm2 hc207) hN207
  rw[hw207]
  have hc207:=Jm2 hc207
  cases h
  exact Jz1 λa ha=>⟨k,_,Ja3 _,⟨K236,v18+1,y251,R,(T3 S217 S233 S237).wk R,f238,hn239,by omega,by omega,hk221⟩,(ha.mm R)⟩
  rintro _ w210 ⟨K211,s12,rfl,S212,f213,hn214,rfl⟩
  have h:=yI hK208
  refine Jp<|Je3 R<|Ju<|Ja2 (l:=[.tmp 4]) V93 (Jp2 R R) R ?_
  cases h
  exact⟨(λb=>ren [(5,2)]<|K211 b),ab,aa,(by simp only[hn214]),((hE.stp (T15 S3 S15 S20 S26 S33 S68 S78 S93 S99 S106 S175 S179 S189 S203 S212) R R).map (ren [(5,2)]) R R),(f213.map (ren [(5,2)]) R R)⟩
  refine JT λh=>Jx R<|Jq<|Je3 R ?_
  have hN135:(p1.length:Int)<=9223372036854775807:=f72.len_le
  refine Ob h λq8 hq137 hK136=>?_
  clear h
  refine Jx1 (λL w'=>∃κ',∃s9:(List Bool),L=[(6,.slice ab x24.length aa)]/\Stp [5] K105 w104 κ' w'/\Oc Ep.bool 4 κ' w' 5 ab aa s9/\x24.length=s9.length/\q8=vq s9) ?_ ?_
  refine Jv<|Jy1 (λk L w'=>∃κ' v15,∃s7:(List Bool),L=[(1,.slice a1 p1.length u1),(6,.slice ab x24.length aa),(7,vi<|Int.tmod x21 2),(15,vi v15)]/\Stp [5] K105 w104 κ' w'/\Oc Ep.bool 4 κ' w' 5 ab aa s7/\x24.length=s7.length/\0<=v15/\vu ((p1.length:Int)-v15)=k/\cntM (jc p1 x21) k v15 s7=some q8) ⟨_,_,⟨K105,0,x24,R,Jj3,(f21.stp (T7 S26 S33 S68 S78 S93 S99 S106) R R),R,(by decide),(by simp),hq137⟩,(KM R)⟩ ?_
  rintro k _ w143 ⟨K144,v15,s7,rfl,S145,f146,hn147,hj135,hJ135,h⟩
  rcases k with _ | k
  have hk149:=h;obtain⟨o135,h⟩:=cc (vq (vr s7):(List Bool)⊕(((List Bool))⊕((List Bool))))
  have hc135:decide (v15<(p1.length:Int))=false:=Jo2 (by omega)
  refine Jq<|Jg3 [2,2,2,2] 2 R<|Jn3 R U123 R R<|Jb 1 R<|Jw2 R hc135<|Jc1<|Jt<|Jt ?_
  cases h
  have h:=hk149
  refine Jb1 ?_
  cases h
  exact Jw1 _ ⟨K144,s7,R,S145.wk R,f146,hn147,R⟩<|KM R
  obtain⟨o135,h,hk149⟩:=BI h;unfold jc at h
  have hc135:decide (v15<(p1.length:Int))=true:=Jn2 (by omega)
  refine Jq<|Jg3 [2,2,2,2] 2 R<|Jn3 R U123 R R<|Jb 1 R<|Jv2 R hc135<|Js<|Jp<|Jq<|Jv<|Jh3 [2,2,2,2,2,1,2,2,2,2,2,1] 4 R<|Ob h λx109 hx109 h=>Jc3 R f72 hx109 U123 Z4<|Jb3 R I4 ((f72.stp (T5 S78 S93 S99 S106 S145) R R).gBool hx109)<|Jn 1 R<|Ob h λp114 h hK151=>Ju1 [(7,2),(8,2),(9,2)] [(10,2),(11,1)] (λL w'=>L=[(1,.slice a1 p1.length u1),(6,.slice ab x24.length aa),(7,vi<|Int.tmod x21 2),(15,vi v15),(105,.slice ab x24.length aa),(106,vi v15),(114,.bool p114)]/\∃κ',Stp [] K144 w143 κ' w') tv ?_ ?_
  revert h
  cases ht152:x109
  refine JF λh=>Jn 3 R ?_
  cases h
  exact Jv1 _ tv ⟨R,_,Jj3⟩<|KM R
  refine JT λh=>Jn 3 R ?_
  cases h
  exact Jv1 _ tv ⟨R,_,Jj3⟩<|KM R
  rintro _ w153 _ ⟨rfl,K154,S155⟩
  have h:=hK151
  refine Ob h λx115 hx115 h=>Jf R (Jf2 f146.rdc hx115 U123 Z4 R R hn147 R)<|Ob h λy247 hy247 h=>Jk1 (κ:=K154) (E:=Ep.bool) 5 [] R R R R R R R R Z4 R R R R (f146.stp S155 R R) hy247 λw157 K158 S159 f160=>Tv<|?_
  have hn161:x24.length=y247.length:=hn147.trans (Jt2 hy247).2.2.2.symm
  refine Jo<|Jz<|Jp<|Jf3 R ?_
  have hw135:sh .i64 (v15+1)=v15+1:=wr1 hj135 (Jm2 hc135) hN135
  rw[hw135]
  have hc135:=Jm2 hc135
  cases h
  exact Jz1 λa ha=>⟨k,_,Ja3 _,⟨K158,v15+1,y247,R,(T3 S145 S155 S159).wk R,f160,hn161,by omega,by omega,hk149⟩,(ha.mm R)⟩
  rintro _ w138 ⟨K139,s9,rfl,S140,f141,hn142,rfl⟩
  have h:=yI hK136
  refine Jp<|Je3 R<|Ju<|Jw<|Ja2 (l:=[.tmp 4]) V93 (Jp2 R R) R ?_
  cases h
  exact⟨(λb=>ren [(5,2)]<|K139 b),ab,aa,(by simp only[hn142]),((hE.stp (T11 S3 S15 S20 S26 S33 S68 S78 S93 S99 S106 S140) R R).map (ren [(5,2)]) R R),(f141.map (ren [(5,2)]) R R)⟩
  refine JT λh=>Jx R<|Je3 R<|Ju<|Jw<|Ja2 (l:=[.tmp 4]) V93 (Jp2 R R) R ?_
  cases h
  exact⟨(λb=>ren [(5,2)]<|K19 b),ab,aa,R,((hE.stp (T3 S3 S15 S20) R R).map (ren [(5,2)]) R R),(f21.map (ren [(5,2)]) R R)⟩
theorem ik {a0 u0}{p0:(List Int)}{p1:Int}(g0:Rd (Rp.int .i64) κ w 0 a0 u0 p0){r:Bool}(h:dX p0 p1=some r):Ret Try.prog 20 [.slice a0 p0.length u0,vi p1] w (Pvb κ w r):=by
 unfold dX at h
 refine Jk3 κ F20 R N20 R λhE=>Je [1,2] R<|Jf1 (κ:=κ) 2 R R R R R R R λb3 w1 K2 S3 f4=>Tv<|Jb 1 R<|Jg3 [2,2,1,2,2] 1 R<|Jf R (qu (first:=[]) (captured:=[.tmp 3]) R R R ⟨_,R⟩)<|Ob h λx7 hx7 h=>Jh R R R C40 (dm (κ:=Mk K2) (Ji3<|g0.stp S3 R R) (f4.map (mp [] 0) R R) hx7) ?_
 rintro _ w6 ⟨k7,rfl,e8⟩
 obtain⟨K9,S10,m11⟩:=Ji e8 3 R
 refine Tv<|Jb 2 R<|Ju<|Ja2 (l:=[.tmp 4]) V20 (Jp2 R R) R ?_
 cases h
 exact⟨K9,R,(hE.stp (S3.tr S10) R R)⟩
theorem ob {p0:Sig}{af ae ai ah}{p1:Rival}{a2 u2}{p2:(List Int)}(g1_0:Rd (Rp.int .i64) κ w 0 af ae p1.In) (g1_1:Rd (Rp.sl (Rp.int .i64)) κ w 0 ai ah p1.Next) (g2:Rd (Rp.int .i64) κ w 0 a2 u2 p2){r:(List Int)}(h:ey p0 p1 p2=some r):Ret Try.prog 8 [.agg #[vi p0.In,vi p0.Out],.agg #[.slice af p1.In.length ae,.slice ai p1.Next.length ah],.slice a2 p2.length u2] w (Pvs E6 2 κ w r):=by
 unfold ey at h
 refine Jk3 κ F8 R N8 R λhE=>Je [1,1,2] R<|Jf1 (κ:=κ) 2 R R R R R R R λb3 w1 K2 S3 f4=>Tv<|Jf1 (κ:=K2) 3 R R R R R R R λb4 w5 K6 S7 f8=>Tv<|Jb 1 R<|Jq<|Je [1,1,1,2,2,2,2,2,2,2,2,1,1,1,2,2] R ?_
 have f9:=f4.stp S7 R R
 refine Jl tv R R R R (Jd2 (cs:=[vi p0.In,vi p0.Out]) I25 Z25 R R R<|haE f9.cells)<|Jl tv R R R R (Jd2 (cs:=[.slice af p1.In.length ae,.slice ai p1.Next.length ah]) I29 Z29 R R R<|haE f8.cells)<|Ob h λx12 hx12 h=>?_
 have f10:=g1_0.stp (S3.tr S7) R R
 have f11:=g1_1.stp (S3.tr S7) R R
 refine Jh R R R C10 (mu (κ:=Mk K6) (p0:=p0) (p1:=p1) (Ji3 f10) (Ji3 f11) hx12) ?_
 rintro _ w12 ⟨k13,rfl,e14⟩
 obtain⟨K15,S16,m17⟩:=Ji e14 4 R
 refine Tv<|Jn 2 R<|Ob h λp18 h hK19=>Ju1 [(5,2),(6,2),(7,2),(8,2)] [(9,2),(10,2),(11,1),(12,1),(13,1),(14,2),(15,2)] (λL w'=>L=[(2,.slice a2 p2.length u2),(3,.pointer (some ⟨b3,0,none⟩)),(4,.pointer (some ⟨b4,0,none⟩)),(18,.bool p18)]/\∃κ',Stp [] K15 w12 κ' w') tv ?_ ?_
 revert h
 cases ht20:(!x12)
 refine JF λh=>Jn 1 R<|Jn3 R U26 R R<|Jn 2 R ?_
 cases h
 exact Jv1 _ tv ⟨R,_,Jj3⟩<|KM R
 refine JT λh=>Jn 4 R ?_
 cases h
 exact Jv1 _ tv ⟨R,_,Jj3⟩<|KM R
 rintro _ w21 _ ⟨rfl,K22,S23⟩
 have h:=hK19
 refine Jn 1 R<|Ob h λp25 h hK24=>Ju1 [(10,2),(11,1),(12,1),(13,1),(14,2),(15,2)] [] (λL w'=>L=[(2,.slice a2 p2.length u2),(4,.pointer (some ⟨b4,0,none⟩)),(25,.bool p25)]/\∃κ',Stp [] K22 w21 κ' w') tv ?_ ?_
 revert h
 cases ht25:p18
 refine JF λh=>Jn 1 R<|Jl tv R R R R (Jd2 (cs:=[vi p0.In,vi p0.Out]) I25 Z25 R R R<|haE (f9.stp (S16.tr S23) R R).cells)<|Ob h λx22 hx22 h=>Jh R R R C22 (ic (κ:=Mk K22) (p0:=p0) hx22) ?_
 rintro _ w27 ⟨k28,rfl,e29⟩
 obtain⟨K30,S31,m32⟩:=Ji e29 6 R
 refine Tv<|Ob h λx23 hx23 h=>Jh R R R C21 (gP (κ:=Mk K30) (Ji3<|g2.stp (T5 S3 S7 S16 S23 S31) R R) hx23) ?_
 rintro _ w35 ⟨k36,rfl,e37⟩
 obtain⟨K38,S39,m40⟩:=Ji e37 8 R
 refine Tv<|Jn 2 R ?_
 cases h
 exact Jv1 _ tv ⟨R,_,(S31.tr S39).wk R⟩<|KM R
 refine JT λh=>Jn 1 R<|Jd1 R R R R<|Jd1 R R R R<|Jd1 R R R R<|Jn 2 R ?_
 cases h
 exact Jv1 _ tv ⟨R,_,Jj3⟩<|KM R
 rintro _ w42 _ ⟨rfl,K43,S44⟩
 have h:=hK24
 refine Jd ?_
 revert h
 cases ht45:p25
 refine JF λh=>Jy R<|Js<|Jp<|Je3 R<|Je [2,1,2,1,1,2] R<|Jd3 R U29 R Z26 ?_
 have f51:=f8.stp (T3 S16 S23 S44) R R
 refine Jb3 R I26 (f51.ld 0 R R)<|Ob h λx29 hx29 h=>Jc3 R f10 hx29 U26 Z2 ?_
 have f52:=f10.stp (T3 S16 S23 S44) R R
 refine Jb3 R I2 (f52.gInt hx29)<|Jn1 (κ:=K43) (E:=E6) 6 [] (parts:=[(0,.tmp 30)]) (cells:=[vi x29]) (xs:=([x29]:List Int)) R R R R R R Y26 a8 R R R R R R R R R R ⟨[vi x29],[],Zl K43 w42 [],Zl K43 w42 [],R,Zl.sp (l1:=[]) (l2:=[]) R,Zl.sr (l1:=[]) (l2:=[]),R,R⟩ λaj ak w53 K54 S55 f56=>Tv<|Jb 1 R<|Jq<|Je3 R ?_
 have hN57:(p2.length:Int)<=9223372036854775807:=g2.len_le
 refine Ob h λq2 hq59 hK58=>?_
 clear h
 refine Jx1 (λL w'=>∃κ',∃s3:Int×(List Int),∃ad aa,L=[(8,.slice ad s3.2.length aa)]/\Stp [6] K54 w53 κ' w'/\Oc E6 2 κ' w' 6 ad aa s3.2/\q2=vq s3) ?_ ?_
 refine Jv<|Jy1 (λk L w'=>∃κ' v9,∃s1:Int×(List Int),∃ac ab,L=[(2,.slice a2 p2.length u2),(4,.pointer (some ⟨b4,0,none⟩)),(7,vi s1.1),(8,.slice ac s1.2.length ab),(9,vi v9)]/\Stp [6] K54 w53 κ' w'/\Oc E6 2 κ' w' 6 ac ab s1.2/\0<=v9/\vu ((p2.length:Int)-v9)=k/\cntM (dx p1 p2) k v9 s1=some q2) ⟨_,_,⟨K54,0,((0:Int),(([x29]:List Int):(List Int))),aj,ak,R,Jj3,f56,(by decide),(by simp),hq59⟩,(KM R)⟩ ?_
 rintro k _ w64 ⟨K65,v9,s1,ac,ab,rfl,S66,f67,hj57,hJ57,h⟩
 rcases k with _ | k
 have hk68:=h;obtain⟨o57,h⟩:=cc (vq (vr s1):(List Int)⊕((Int×(List Int))⊕(Int×(List Int))))
 have hc57:decide (v9<(p2.length:Int))=false:=Jo2 (by omega)
 refine Jq<|Jg3 [2,2,2,2] 2 R<|Jn3 R U26 R R<|Jb 1 R<|Jw2 R hc57<|Jc1<|Jt<|Jt ?_
 cases h
 have h:=hk68
 refine Jb1 ?_
 cases h
 exact Jw1 _ ⟨K65,(s1.1,s1.2),ac,ab,R,S66.wk R,f67,R⟩<|KM R
 obtain⟨o57,h,hk68⟩:=BI h;unfold dx at h
 have hc57:decide (v9<(p2.length:Int))=true:=Jn2 (by omega)
 refine Jq<|Jg3 [2,2,2,2] 2 R<|Jn3 R U26 R R<|Jb 1 R<|Jv2 R hc57<|Js<|Jp<|Jq<|Jv<|Jq<|Js1 (κ:=K65) [0,3] none [(0,2),(2,2),(5,2),(6,2),(7,2),(1,0),(3,2),(4,0),(8,0),(9,2),(10,0),(11,2)] [] (by kernel_rfl) (by kernel_rfl) λw70 S69=>Jd3 R U29 R Z27<|Jn 3 R<|Ob h λx45 hx45 h=>Jc3 R g2 hx45 U26 Z2 ?_
 have f71:=f51.stp (T3 S55 S66 S69) R R
 refine Jg R (Jc2 I27 R R<|hvC (f71.ld 1 R R) R)<|Ob h λx41 hx41 h=>Jc3 R f11 hx41 U27 Z26 ?_
 obtain⟨ax41,ux41,f73,hl74⟩:=(f11.stp (T6 S16 S23 S44 S55 S66 S69) R R).gSl hx41
 refine Jg R (Jc2 I26 R R<|hvC hl74 R)<|Jg R (Jc2 I2 R R<|hvC ((g2.stp (T8 S3 S7 S16 S23 S44 S55 S66 S69) R R).gInt hx45) R)<|Ob h λx47 hx47 h=>Jc3 R f73 hx47 U26 Z2<|Jg R (Jc2 I2 R R<|hvC (f73.gInt hx47) R)<|Jn 1 R<|Jt1<|Jd<|Jh3 [2,2,1,2,2,1,1,1,2] 1 R<|Jd3 R U29 R Z26<|Jb3 R I26 (f71.ld 0 R R)<|Jn 1 R<|Ob h λx53 hx53 h=>Jc3 R f52 hx53 U26 Z2<|Jb3 R I2 ((f52.stp (T3 S55 S66 S69) R R).gInt hx53)<|Jn1 (κ:=K65) (E:=E6) 7 [] (parts:=[(0,.tmp 54)]) (cells:=[vi x53]) (xs:=([x53]:List Int)) R R R R R R Y26 a8 R R R R R R R R R R ⟨[vi x53],[],Zl K65 w70 [],Zl K65 w70 [],R,Zl.sp (l1:=[]) (l2:=[]) R,Zl.sr (l1:=[]) (l2:=[]),R,R⟩ λap aq w77 K78 S79 f80=>Tv<|Ob h λx56 hx56 h=>Jm1 (κ:=K78) (E:=E6) 6 [] R R R R R R R R R Y26 a8 R R R R (f67.stp (S69.tr S79) R R) (Sl.srcP (cb _) f80.rdc) bJ hx56 R λam al w82 K83 S84 f85=>Tv<|Jc 1 R<|Jz<|Jp<|Jf3 R ?_
 have hw57:sh .i64 (v9+1)=v9+1:=wr1 hj57 (Jm2 hc57) hN57
 rw[hw57]
 have hc57:=Jm2 hc57
 cases h
 exact Jz1 λa ha=>⟨k,_,Ja3 _,⟨K83,v9+1,(x47,x56),am,al,R,(T4 S66 S69 S79 S84).wk R,f85,by omega,by omega,hk68⟩,(ha.mm R)⟩
 rintro _ w60 ⟨K61,s3,ad,aa,rfl,S62,f63,rfl⟩
 have h:=yI hK58
 refine Jp<|Je3 R<|Ju<|Ja2 (l:=[.tmp 6]) V8 (Jp2 R R) R ?_
 cases h
 exact⟨(λb=>ren [(6,2)]<|K61 b),ad,aa,R,((hE.stp (T7 S3 S7 S16 S23 S44 S55 S62) R R).map (ren [(6,2)]) R R),(f63.map (ren [(6,2)]) R R)⟩
 refine JT λh=>Jx R<|Je [1,2] R<|Jo1 (κ:=K43) (E:=E6) 6 R R R R R Y26 a8 R λao an w46 K47 S48 f49=>Tv<|Jb 1 R<|Ju<|Jw<|Ja2 (l:=[.tmp 6]) V8 (Jp2 R R) R ?_
 cases h
 exact⟨(λb=>ren [(6,2)]<|K47 b),ao,an,R,((hE.stp (T6 S3 S7 S16 S23 S44 S48) R R).map (ren [(6,2)]) R R),(f49.map (ren [(6,2)]) R R)⟩
end Go.Proofs.Ytpcjbkgbnoocaaa
