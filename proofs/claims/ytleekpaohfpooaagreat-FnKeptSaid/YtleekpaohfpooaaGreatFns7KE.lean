/- The walks, part 7. By program. -/
import Derived.Test.YtleekpaohfpooaaGreatFns4KE
import Derived.Test.YtleekpaohfpooaaGreatFns5KE
import Derived.Test.YtleekpaohfpooaaGreatFns6KE
set_option linter.unusedVariables false
set_option linter.unusedSimpArgs false
open Go.IntKind renaming wrap → yC
open Sum renaming inr → yD, inl → yE
open Int renaming toNat → yG
namespace Go.Proofs.YtleekpaohfpooaaGreat
open Go Go.Wk Go.Proofs
set_option maxRecDepth 100000
set_option maxHeartbeats 1000000
variable {w:World}{κ:Col}
theorem pR {ab aa}{p0:dice}{p1:Int}{b0}(g0_0:Rd (Rp.int .u8) κ w 0 ab aa p0.b) (gb0:Bc κ w 2 b0 65 [.slice ab p0.b.length aa,vi p0.i,.int .u64 p0.h]){r:(List Clause)×Int×Int}(h:iT p0 p1=some r):Ret Tryz.prog 10 [.pointer (some ⟨b0,0,none⟩),vi p1] w (λv w'=>∃(κ':Col) (ra0:Option Addr) (ru0:Nat),v= .slice ra0 r.1.length ru0/\Ent κ w κ' w'/\Oc Clause.ep67 67 κ' w' 3 ra0 ru0 r.1/\Bc κ' w' 2 b0 65 [.slice ab p0.b.length aa,vi r.2.1,.int .u64 r.2.2]):=by
 unfold iT at h
 refine Jk3 κ F10 R N10 R λhE=>Je3 R<|Je [1,2] R<|Jx3 (κ:=κ) (E:=Clause.ep67) 3 R Y29 nk R λa7 u7 w1 K2 S3 f4=>Tv<|Jb 1 R<|Jq<|Jg3 [2,2,2,1,2] 3 R<|Ob h λx11 hx11 h=>?_
 have f5:=g0_0.stp S3
 refine Jr3 R C25 (dd (κ:=λb=>mp [(2,2)] 0<|K2 b) (p0:=p0) (Jl2 f5 (mp [(2,2)] 0) R R) ((gb0.stp S3).map (mp [(2,2)] 0) R R) hx11) ?_
 rintro _ w7 ⟨k8,rfl,e9,f10⟩
 obtain⟨K11,S12,m13⟩:=Ji e9 4 R
 refine Tv<|Jb 1 R<|Ob h λq2 hq18 hK17=>?_
 clear h
 refine Jo3 [0] (λE L w'=>∃κ',∃s3:(List Clause)×Int×Int×Int,∃ak ad,L=(5,.slice ak s3.1.length ad)::E/\Stp [3,6,9,10,11,12] K11 w7 κ' w'/\Oc Clause.ep67 67 κ' w' 3 ak ad s3.1/\Bc κ' w' 6 b0 65 [.slice ab p0.b.length aa,vi s3.2.2.1,.int .u64 s3.2.2.2]/\q2=yD s3) ?_ ?_
 refine Jv<|Jp3 [0] (λk E L w'=>∃κ',∃s1:(List Clause)×Int×Int×Int,∃ae ac,L=(5,.slice ae s1.1.length ac)::(6,vi s1.2.1)::E/\Stp [3,6,9,10,11,12] K11 w7 κ' w'/\Oc Clause.ep67 67 κ' w' 3 ae ac s1.1/\Bc κ' w' 6 b0 65 [.slice ab p0.b.length aa,vi s1.2.2.1,.int .u64 s1.2.2.2]/\ca (fx p0) k s1=some q2) ⟨_,_,⟨K11,((([]:List Clause):(List Clause)),x11.1,x11.2.1,x11.2.2),a7,u7,R,Jj3,(f4.stp S12),(f10.mx m13 R (R:4+2=6)),hq18⟩,(KM R)⟩ ?_
 rintro k _ w24 ⟨K25,s1,ae,ac,rfl,S26,f27,f28,h⟩
 rcases k with _ | k
 cases h
 obtain⟨o16,h,hk30⟩:=BI h;unfold fx at h
 refine Jq<|Je3 R ?_
 revert h
 cases ht31:decide (0<s1.2.1)
 refine JF λh=>Jy R<|Jc1<|Jt<|Jt ?_
 cases h
 have h:=hk30
 refine Jb1 ?_
 cases h
 exact Jw1 _ ⟨K25,(s1.1,s1.2.1,s1.2.2.1,s1.2.2.2),ae,ac,R,S26.wk R,f27,f28,R⟩<|KM R
 refine JT λh=>Jx R<|Js<|Jp<|Jq<|Jv<|Jh3 [2,2,1,1,1,2] 2 R<|Ob h λx18 hx18 h=>Jr3 R C40 (qG (κ:=λb=>mp [(6,2)] 0<|K25 b) (p0:=(⟨p0.b,s1.2.2.1,s1.2.2.2⟩:dice)) (Jl2 (f5.stp<|S12.tr S26) (mp [(6,2)] 0) R R) (f28.map (mp [(6,2)] 0) R R) hx18) ?_
 rintro _ w33 ⟨k34,ai,ah,aj,af,rfl,e35,f36,f37,f38⟩
 obtain⟨K39,S40,m41⟩:=Ji e35 7 R
 refine Tv<|Jw3 (κ:=K39) (E:=Clause.ep67) 12 [10,11] (parts:=[(0,.tmp 18)]) (cells:=[vi x18.1.Kind,.slice ai x18.1.A.length ah,.slice aj x18.1.B.length af]) (xs:=([x18.1]:List Clause)) R Y29 nk R ⟨[vi x18.1.Kind,.slice ai x18.1.A.length ah,.slice aj x18.1.B.length af],[],Zl K39 w33 [10,11],Zl K39 w33 [],R,Zl.sp (l1:=[10,11]) (l2:=[]) R,Zl.sr (l1:=[10,11]) (l2:=[]),⟨[vi x18.1.Kind],[.slice ai x18.1.A.length ah,.slice aj x18.1.B.length af],Zl K39 w33 [],Zl K39 w33 [10,11],R,Zl.sp (l1:=[]) (l2:=[10,11]) R,Zl.sr (l1:=[]) (l2:=[10,11]),R,⟨[.slice ai x18.1.A.length ah],[.slice aj x18.1.B.length af],Zl K39 w33 [10],Zl K39 w33 [11],R,Zl.sp (l1:=[10]) (l2:=[11]) R,Zl.sr (l1:=[10]) (l2:=[11]),⟨_,_,R,(f36.mx (bL _) m41 R (R:7+3=10))⟩,⟨_,_,R,(f37.mx (bL _) m41 R (R:7+4=11))⟩⟩⟩,R⟩ λan ao w46 K47 S48 f49=>Tv<|Ob h λx20 hx20 h=>Jy3 (κ:=K47) (E:=Clause.ep67) 3 [12] R Y29 nk R (f27.stp<|S40.tr S48) f49.src (dE R) hx20 R λam al w51 K52 S53 f54=>Tv<|Jc 1 R<|Jz<|Jp<|Jf3 R ?_
 cases h
 exact Jz1 λa ha=>⟨k,_,Ja3 _,⟨(λb=>ren [(9,6)]<|K52 b),(x20,((IntKind.i64.wrap<|s1.2.1-1):Int),x18.2.1,x18.2.2),am,al,R,(Jy2 ((T4 S26 S40 S48 S53).wk R) [(9,6)] R),(f54.map (ren [(9,6)]) R R),(((f38.mx m41 R (R:7+2=9)).stp (S48.tr S53)).map (ren [(9,6)]) R R),hk30⟩,(ha.mm R)⟩
 rintro _ w19 ⟨K20,s3,ak,ad,rfl,S21,f22,f23,rfl⟩
 have h:=yI hK17
 refine Jp<|Je3 R<|Ju<|Ja2 (l:=[.tmp 4]) V10 (Jp2 R R) R ?_
 cases h
 exact⟨(λb=>ren [(6,2)]<|K20 b),ak,ad,R,((hE.stp<|T3 S3 S12 S21).map (ren [(6,2)]) R R),(f22.map (ren [(6,2)]) R R),(f23.map (ren [(6,2)]) R R)⟩
theorem dh {a0 u0}{p0:(List Clause)}{c1_0:Sig}{b1_0}(g0:Rd Clause.rp κ w 0 a0 u0 p0) (gb1_0:Bc κ w 0 b1_0 28 [vi c1_0.In,vi c1_0.Out]){r:Int}(h:bU p0 c1_0=some r):Ret Tryz.prog 194 [.slice a0 p0.length u0,.func (.func 127) #[] #[.pointer (some ⟨b1_0,0,none⟩)]] w (Pvi κ w r):=by
 unfold bU at h
 refine Jk3 κ F194 R N194 R λhE=>Je3 R<|Jq<|Jg3 [2,2,2] 1 R<|Jn3 R U29 R R<|Jb 1 R ?_
 have hN1:(p0.length:Int)<=9223372036854775807:=g0.len_le
 refine Ob h λq2 hq3 hK2=>?_
 clear h
 refine Jo3 [1] (λE L w'=>∃κ',L=E/\Stp [] κ w κ' w'/\q2=yD ()) ?_ ?_
 refine Jv<|Jp3 [0,1,7] (λk E L w'=>∃κ' v8,L=(8,vi v8)::E/\Stp [] κ w κ' w'/\0<=v8/\yG ((p0.length:Int)-v8)=k/\cntM (bS p0 c1_0) k v8 ()=some q2) ⟨_,_,⟨κ,0,R,Jj3,(by decide),(by simp),hq3⟩,(KM R)⟩ ?_
 rintro k _ w7 ⟨K8,v8,rfl,S9,hj1,hJ1,h⟩
 rcases k with _ | k
 have hk10:=h;obtain⟨o1,h⟩:=bT (yD (yE ()):Int⊕((Unit)⊕(Unit)))
 have hc1:decide (v8<(p0.length:Int))=false:=Jo2 (by omega)
 refine Je3 R<|Jq<|Jw2 R hc1<|Jc1<|Jt<|Jt ?_
 cases h
 have h:=hk10
 refine Jb1 ?_
 cases h
 exact Jw1 _ ⟨K8,R,S9.wk R,R⟩<|KM R
 obtain⟨o1,h,hk10⟩:=BI h;unfold bS at h
 have hc1:decide (v8<(p0.length:Int))=true:=Jn2 (by omega)
 refine Je3 R<|Jq<|Jv2 R hc1<|Js<|Jp<|Jq<|Jv<|Je3 R<|Jg3 [2,2,2,2,1,1] 3 R<|Ob h λx14 hx14 h=>Jc3 R g0 hx14 U29 Z67 ?_
 obtain⟨cse12,hre12,hle12⟩:=((g0.stp S9)).gSt hx14
 obtain⟨ae12_0,ue12_0,ae12_1,ue12_1,rfl,fe12_0,fe12_1⟩:=Clause.un hre12
 refine Jb4 tv R (Jc4 (haE hle12) I67 Z67 R)<|Ob h λx16 hx16 h=>WO.callV R R R R R R R R C127 (nB (κ:=Mk K8) (p0:=x14) (c0:=c1_0) (Ji3 fe12_0) (Ji3 fe12_1) ((gb1_0.stp S9).map (mp [] 0) R R) hx16) ?_
 rintro _ w14 ⟨k15,rfl,e16⟩
 obtain⟨K17,S18,m19⟩:=Ji e16 2 R
 refine Tv<|Jd ?_
 revert h
 cases ht21:x16
 refine JF λh=>Jy R<|Js<|Jz<|Jp<|Jf3 R ?_
 have hw1:yC .i64 (v8+1)=v8+1:=wr1 hj1 (Jm2 hc1) hN1
 rw[hw1]
 have hc1:=Jm2 hc1
 cases h
 exact Jz1 λa ha=>⟨k,_,Ja3 _,⟨K17,v8+1,R,(S9.tr S18).wk R,by omega,by omega,hk10⟩,(ha.mm R)⟩
 refine JT λh=>Jx R<|Je3 R<|Ju<|Ja1<|Jw<|Jw ?_
 cases h
 obtain rfl:=Option.some.inj hk10
 have h:=yL hK2
 refine Ja1<|Jq2<|Jw<|Ja2 (l:=[.tmp 4]) V194 (Jp2 R R) R ?_
 cases h
 exact⟨K17,R,(hE.stp<|S9.tr S18)⟩
 rintro _ w4 ⟨K5,rfl,S6,rfl⟩
 have h:=yI hK2
 refine Jp<|Je3 R<|Ju<|Ja2 (l:=[.tmp 4]) V194 (Jp2 R R) R ?_
 cases h
 exact⟨K5,R,(hE.stp S6)⟩
theorem oT {aa ab}{p0:Place}{a1 u1}{c0:(List Pair)}{b1}(g0_1:Rd (Rp.int .i64) κ w 0 aa ab p0.Record) (g1:Rd Pair.rp κ w 0 a1 u1 c0) (gb1:Bc κ w 0 b1 69 [.slice a1 c0.length u1]){r:(List Int)}(h:gT p0 c0=some r):Ret Tryz.prog 110 [.agg #[vi p0.At,.slice aa p0.Record.length ab],.pointer (some ⟨b1,0,none⟩)] w (Pvs E6 2 κ w r):=by
 unfold gT at h
 refine Jk3 κ F110 R N110 R λhE=>Je [1,2] R<|Js3 (κ:=κ) 2 R λb2 w1 K2 S3 f4=>Tv<|Jb 1 R<|Je [1,2,1,2,1,1,2] R<|Jb3 R I69 ((gb1.stp S3).ld 0 R R)<|Jd3 R U88 R Z37<|Jb3 R I37 (f4.ld 1 R R)<|Jd3 R U88 R Z2<|Jb3 R I2 (f4.ld 0 R R)<|Ob h λx9 hx9 h=>Jr3 R C111 (oQ (κ:=Mk K2) (Ji3<|g1.stp S3) (Ji3<|g0_1.stp S3) hx9) ?_
 rintro _ w8 ⟨k9,ac,ad,rfl,e10,f11⟩
 obtain⟨K12,S13,m14⟩:=Ji e10 3 R
 refine Tv<|Jb 1 R<|Ju<|Ja2 (l:=[.tmp 3]) V110 (Jp2 R R) R ?_
 cases h
 exact⟨(λb=>ren [(5,2)]<|K12 b),ac,ad,R,((hE.stp<|S3.tr S13).map (ren [(5,2)]) R R),((f11.mx (bL _) m14 R (R:3+2=5)).map (ren [(5,2)]) R R)⟩
theorem rv {a0 u0}{p0:(List Place)}{p1:Int}{a2 u2}{p2:(List Int)}(g0:Rd Place.rp κ w 0 a0 u0 p0) (g2:Rd (Rp.int .i64) κ w 0 a2 u2 p2){r:Int}(h:kT p0 p1 p2=some r):Ret Tryz.prog 174 [.slice a0 p0.length u0,vi p1,.slice a2 p2.length u2] w (Pvi κ w r):=by
 unfold kT at h
 refine Jk3 κ F174 R N174 R λhE=>Je [1,1,2] R<|Js3 (κ:=κ) 2 R λb4 w1 K2 S3 f4=>Tv<|Js3 (κ:=K2) 3 R λb5 w5 K6 S7 f8=>Tv<|Jb 1 R<|Jg3 [2,2,1,2] 1 R<|Jf R (gM (first:=[]) (captured:=[.tmp 4,.tmp 5]) R R R ⟨_,R⟩)<|Ob h λx9 hx9 h=>Jr3 R C241 (dC (κ:=Mk K6) (Ji3<|g0.stp<|S3.tr S7) (Ji3<|g2.stp<|S3.tr S7) ((f4.stp S7).map (mp [] 0) R R) (f8.map (mp [] 0) R R) hx9) ?_
 rintro _ w12 ⟨k13,rfl,e14⟩
 obtain⟨K15,S16,m17⟩:=Ji e14 4 R
 refine Tv<|Jb 1 R<|Ju<|Ja2 (l:=[.tmp 6]) V174 (Jp2 R R) R ?_
 cases h
 exact⟨K15,R,(hE.stp<|T3 S3 S7 S16)⟩
theorem oU {ab aa}{p0:Place}{a1 u1}{c0:(List Pair)}{b1}(g0_1:Rd (Rp.int .i64) κ w 0 ab aa p0.Record) (g1:Rd Pair.rp κ w 0 a1 u1 c0) (gb1:Bc κ w 0 b1 69 [.slice a1 c0.length u1]){r:Int}(h:gU p0 c0=some r):Ret Tryz.prog 112 [.agg #[vi p0.At,.slice ab p0.Record.length aa],.pointer (some ⟨b1,0,none⟩)] w (Pvi κ w r):=by
 unfold gU at h
 refine Jk3 κ F112 R N112 R λhE=>Je [1,2] R<|Js3 (κ:=κ) 2 R λb2 w1 K2 S3 f4=>Tv<|Jb 1 R<|Je [1,2,1,2,1,1,2] R<|Jb3 R I69 ((gb1.stp S3).ld 0 R R)<|Jd3 R U88 R Z37<|Jb3 R I37 (f4.ld 1 R R)<|Jd3 R U88 R Z2<|Jb3 R I2 (f4.ld 0 R R)<|Ob h λx9 hx9 h=>Jr3 R C113 (o6 (κ:=Mk K2) (Ji3<|g1.stp S3) (Ji3<|g0_1.stp S3) hx9) ?_
 rintro _ w8 ⟨k9,rfl,e10⟩
 obtain⟨K11,S12,m13⟩:=Ji e10 3 R
 refine Tv<|Jb 1 R<|Ju<|Ja2 (l:=[.tmp 3]) V112 (Jp2 R R) R ?_
 cases h
 exact⟨K11,R,(hE.stp<|S3.tr S12)⟩
theorem pz {ae ab aa ad ac af}{p0:Parity}{a1 u1}{p1:(List Int)}(g0_0_0:Rd (Rp.int .i64) κ w 0 ae ab p0.Arena.Owner) (g0_0_1:Rd (Rp.sl (Rp.int .i64)) κ w 0 aa ad p0.Arena.Next) (g0_1:Rd (Rp.int .i64) κ w 0 ac af p0.Prio) (g1:Rd (Rp.int .i64) κ w 0 a1 u1 p1){r:(List Int)×(List Int)}(h:mL p0 p1=some r):Ret Tryz.prog 114 [.agg #[.slice ae p0.Arena.Owner.length ab,.slice aa p0.Arena.Next.length ad,.slice ac p0.Prio.length af],.slice a1 p1.length u1] w (λv w'=>∃(κ':Col) (ra0:Option Addr) (ru0:Nat) (ra1:Option Addr) (ru1:Nat),v= .tuple #[.slice ra0 r.1.length ru0,.slice ra1 r.2.length ru1]/\Ent κ w κ' w'/\Oc E6 2 κ' w' 2 ra0 ru0 r.1/\Oc E6 2 κ' w' 3 ra1 ru1 r.2):=by
 unfold mL at h
 refine Jk3 κ F114 R N114 R λhE=>Je [1,2,2] R<|Js3 (κ:=κ) 2 R λb2 w1 K2 S3 f4=>Tv<|Jb 2 R<|Jq<|Js1 (κ:=K2) [2] none [(1,2),(0,0),(2,0),(3,1),(4,2),(5,1),(6,2)] [] (by kernel_rfl) (by kernel_rfl) λw6 S5=>Jd3 R U79 R Z75 ?_
 have f7:=f4.stp S5
 refine Jg R (Jc4 (haC f7.cells R) I79 Z79 R)<|Jg R (Jc4 (haC (f7.lds 0 2 R) R) I75 Z75 R)<|Ob h λx13 hx13 h=>?_
 have f8:=g0_0_0.stp (S3.tr S5)
 have f9:=g0_0_1.stp (S3.tr S5)
 refine Jr3 R C176 (rm (κ:=Mk K2) (p0:=p0.Arena) (Ji3 f8) (Ji3 f9) hx13) ?_
 rintro _ w10 ⟨k11,ai,ak,rfl,e12,f13⟩
 obtain⟨K14,S15,m16⟩:=Ji e12 3 R
 refine⟨(S15.cl R),Jf R (bK (parts:=[(0,.tmp 10),(1,.tmp 13)]) (cells:=[.slice ae p0.Arena.Owner.length ab,.slice aa p0.Arena.Next.length ad,.slice ac p0.Prio.length af,.slice ai x13.length ak]) R R (by kernel_rfl))<|Js3 (κ:=K14) 6 R λb15 w19 K20 S21 f22=>⟨((S15.tr S21).cl R),Jn 1 R<|Jt1<|Jd<|Je [2,1,2,1,2] R<|Jd3 R U79 R Z75<|Jb4 tv R (Jc4 (haE ((f7.stp<|S15.tr S21).lds 0 2 R)) I75 Z75 R)<|Jn 1 R<|Ob h λx19 hx19 h=>?_⟩⟩
 have f24:=f8.stp (S15.tr S21)
 have f25:=f9.stp (S15.tr S21)
 refine Jr3 R C177 (sk (κ:=Mk K20) (p0:=p0.Arena) (Ji3 f24) (Ji3 f25) (Ji3<|g1.stp<|T4 S3 S5 S15 S21) hx19) ?_
 rintro _ w27 ⟨k28,av,au,rfl,e29,f30⟩
 obtain⟨K31,S32,m33⟩:=Ji e29 7 R
 refine Tv<|Jb 1 R<|Jg3 [2,2,1,2,2,2,2,2] 2 R ?_
 obtain⟨K37,S38,z39⟩:=fV K31 w27 5
 obtain⟨K42,S43,z44⟩:=fV K37 w27 9
 obtain⟨K47,S48,z49⟩:=fV K42 w27 6
 refine Ob h λx23 hx23 h=>?_
 have f55:=(Sl.st z44 ((f30.mx dU m33 R (R:7+2=9)).stp S38).rdc).stp S48
 have S001:=(T3 S32 S38 S43)
 refine Jr3 R C178 (o7 _ (κ:=λb=>mp [] 1<|K47 b) (p0:=(⟨p0,x13⟩:solver)) (Jl2 (f24.stp<|S001.tr S48) (mp [] 1) R R) (Jl2 (f25.stp<|S001.tr S48) (mp [] 1) R R) (Jl2 (g0_1.stp<|T8 S3 S5 S15 S21 S32 S38 S43 S48) (mp [] 1) R R) (Jl2 ((Sl.st z39 ((f13.mx (cR (bL _) _) m16 R (R:3+2=5)).stp (S21.tr S32)).rdc).stp (S43.tr S48)) (mp [] 1) R R) (Jl2 f55 (mp [] 1) R R) ((Bc.fzz z49<|f22.stp S001).map (mp [] 1) R R) hx23) ?_
 rintro _ w56 ⟨k57,ar,ax,rfl,e58,f59⟩
 obtain⟨K60,S61,m62,z63⟩:=Jj e58 10 R
 refine Tv<|?_
 have f64:=f59.mx z63
 refine Jb 5 R<|Jq<|Je3 R ?_
 revert h
 cases ht65:(x23.2==0)
 refine JF λh=>Jy R<|Js<|Jp<|Jg3 [2,2,1,1,2,1,2,2] 2 R<|Ob h λx36 hx36 h=>Jr3 R C180 (iv (κ:=Mk K60) (Ji3<|f55.stp S61) (Ji3 f64) hx36) ?_
 rintro _ w98 ⟨k99,aA,ay,rfl,e100,f101⟩
 obtain⟨K102,S103,m104⟩:=Ji e100 13 R
 refine Tv<|Ob h λx37 hx37 h=>Jr3 R C179 (gH (κ:=Mk K102) (Ji3 (f101.mx dU m104 R (R:13+2=15)).rdc) hx37) ?_
 rintro _ w107 ⟨k108,ao,ap,rfl,e109,f110⟩
 obtain⟨K111,S112,m113⟩:=Ji e109 16 R
 refine Tv<|Jn 1 R<|Ob h λx39 hx39 h=>Jr3 R C179 (gH (κ:=Mk K111) (Ji3<|f64.stp<|S103.tr S112) hx39) ?_
 rintro _ w117 ⟨k118,aq,am,rfl,e119,f120⟩
 obtain⟨K121,S122,m123⟩:=Ji e119 19 R
 refine Tv<|Jb 2 R<|Ju<|Ja2 (l:=[.tmp 4,.tmp 5]) V114 (Jp2 R<|Jp2 R R) R ?_
 cases h
 exact⟨(λb=>ren [(18,2),(21,3)]<|K121 b),ao,ap,aq,am,R,((hE.stp<|T12 S3 S5 S15 S21 S32 S38 S43 S48 S61 S103 S112 S122).map (ren [(18,2),(21,3)]) R R),(((f110.mx (bL _) m113 R (R:16+2=18)).stp S122).map (ren [(18,2),(21,3)]) R R),((f120.mx (bL _) m123 R (R:19+2=21)).map (ren [(18,2),(21,3)]) R R)⟩
 refine JT λh=>Jx R<|Jg3 [2,1,2,2,1,1,2,2] 1 R<|Ob h λx29 hx29 h=>Jr3 R C179 (gH (κ:=Mk K60) (Ji3 f64) hx29) ?_
 rintro _ w66 ⟨k67,an,al,rfl,e68,f69⟩
 obtain⟨K70,S71,m72⟩:=Ji e68 13 R
 refine Tv<|Jn 2 R<|Ob h λx32 hx32 h=>Jr3 R C180 (iv (κ:=Mk K70) (Ji3<|f55.stp<|S61.tr S71) (Ji3<|f64.stp S71) hx32) ?_
 rintro _ w77 ⟨k78,az,aw,rfl,e79,f80⟩
 obtain⟨K81,S82,m83⟩:=Ji e79 16 R
 refine Tv<|Ob h λx33 hx33 h=>Jr3 R C179 (gH (κ:=Mk K81) (Ji3 (f80.mx dU m83 R (R:16+2=18)).rdc) hx33) ?_
 rintro _ w86 ⟨k87,ah,aj,rfl,e88,f89⟩
 obtain⟨K90,S91,m92⟩:=Ji e88 19 R
 refine Tv<|Jb 2 R<|Ju<|Jw<|Ja2 (l:=[.tmp 4,.tmp 5]) V114 (Jp2 R<|Jp2 R R) R ?_
 cases h
 exact⟨(λb=>ren [(15,2),(21,3)]<|K90 b),an,al,ah,aj,R,((hE.stp<|T12 S3 S5 S15 S21 S32 S38 S43 S48 S61 S71 S82 S91).map (ren [(15,2),(21,3)]) R R),(((f69.mx (bL _) m72 R (R:13+2=15)).stp (S82.tr S91)).map (ren [(15,2),(21,3)]) R R),((f89.mx (bL _) m92 R (R:19+2=21)).map (ren [(15,2),(21,3)]) R R)⟩
theorem sJ {ar ao an aq ap au}{p0:Parity}{a1 u1}{p1:(List Int)}(g0_0_0:Rd (Rp.int .i64) κ w 0 ar ao p0.Arena.Owner) (g0_0_1:Rd (Rp.sl (Rp.int .i64)) κ w 0 an aq p0.Arena.Next) (g0_1:Rd (Rp.int .i64) κ w 0 ap au p0.Prio) (g1:Rd (Rp.int .i64) κ w 0 a1 u1 p1){r:Parity}(h:mw p0 p1=some r):Ret Tryz.prog 184 [.agg #[.slice ar p0.Arena.Owner.length ao,.slice an p0.Arena.Next.length aq,.slice ap p0.Prio.length au],.slice a1 p1.length u1] w (λv w'=>∃(κ':Col) (ra0:Option Addr) (ru0:Nat) (ra1:Option Addr) (ru1:Nat) (ra2:Option Addr) (ru2:Nat),v= .agg #[.slice ra0 r.Arena.Owner.length ru0,.slice ra1 r.Arena.Next.length ru1,.slice ra2 r.Prio.length ru2]/\Ent κ w κ' w'/\Oc E6 2 κ' w' 2 ra0 ru0 r.Arena.Owner/\Oc (Ep.own E6 2) 37 κ' w' 3 ra1 ru1 r.Arena.Next/\Oc E6 2 κ' w' 4 ra2 ru2 r.Prio):=by
 unfold mw at h
 refine Jk3 κ F184 R N184 R λhE=>Je [1,1] R<|Js3 (κ:=κ) 2 R λb2 w1 K2 S3 f4=>Tv<|Jt3 (κ:=K2) 3 R X79 R λb4 w5 K6 S7 f8=>Tv<|Jd<|Jq<|Ob h λx8 hx8 h=>Ob h λx12 hx12 h=>Jo3 [4] (λE L w'=>∃κ' ak al ai ah am aj,L=E/\Stp [3,4,6,7,8] K6 w5 κ' w'/\Oc E6 2 κ' w' 4 ak al x8.Owner/\Oc (Ep.own E6 2) 37 κ' w' 5 ai ah x8.Next/\Oc E6 2 κ' w' 6 am aj x12/\Bc κ' w' 3 b4 79 [.slice ak x8.Owner.length al,.slice ai x8.Next.length ah,.slice am x12.length aj]) ?_ ?_
 refine WC.rxt (κ:=K6) [2] none (by kernel_rfl) λw17 S18=>Jq1 (fuel:=5) [(0,2),(2,2),(5,2),(1,0),(6,0)] (by kernel_rfl) (by kernel_rfl) R<|Jd3 R U79 R Z75<|Jn 1 R<|Jd3 R U79 R Z37 ?_
 have f19:=f4.stp (S7.tr S18)
 refine Jg R (Jc4 (haC (f19.lds 0 2 R) R) I75 Z75 R)<|Jg R (Jc2 I37 R R<|hvC (f19.ld 2 R R) R)<|Jp1<|WA.fork2 (fuel:=4) 3 4 (by kernel_rfl) R ?_ ?_
 have S001:=(T3 S3 S7 S18)
 refine Jr3 R C246 (od (κ:=Mk K6) (p0:=p0.Arena) (Ji3<|g0_0_0.stp S001) (Ji3<|g0_0_1.stp S001) (Ji3<|g1.stp S001) hx8) ?_
 rintro _ w23 ⟨k24,ac,ad,af,ae,rfl,e25,f26,f27⟩
 obtain⟨K28,S29,m30⟩:=Ji e25 4 R
 exact⟨(S29.cl R),Jp1<|Jq1 (fuel:=0) [(4,1),(7,1),(8,2),(9,1)] (by kernel_rfl) (by kernel_rfl) R<|Jx3 (κ:=K28) (E:=E6) 8 R Y37 bG R λa9 u9 w34 K35 S36 f37=>⟨((S29.tr S36).cl R),Jy3 (κ:=K35) (E:=E6) 8 [] R Y37 bG R f37 (Sl.srcP (bP _)<|g0_1.stp<|T5 S3 S7 S18 S29 S36) bI hx12 R λab aa w39 K40 S41 f42=>⟨((T3 S29 S36 S41).cl R),Jf R (bK (parts:=[(0,.tmp 8),(1,.tmp 12)]) (cells:=[.slice ac x8.Owner.length ad,.slice af x8.Next.length ae,.slice ab x12.length aa]) R R (by kernel_rfl))<|Jv3 (κ:=K40) 3 (vc:=[.slice ac x8.Owner.length ad,.slice af x8.Next.length ae,.slice ab x12.length aa]) R Z79 R (f8.stp<|T4 S18 S29 S36 S41) R λw44 S45 f46=>⟨((T4 S29 S36 S41 S45).cl R),Jp1<|Jr1 [] (by kernel_rfl) (by kernel_rfl) R<|Jo<|Jw1 _ ⟨(λb=>ren [(6,4),(7,5),(8,6)]<|K40 b),ac,ad,af,ae,ab,aa,R,(Jy2 ((T5 S18 S29 S36 S41 S45).wk R) [(6,4),(7,5),(8,6)] R),(((f26.mx (bL _) m30 R (R:4+2=6)).stp (T3 S36 S41 S45)).map (ren [(6,4),(7,5),(8,6)]) R R),(((f27.mx (cR (bL _) _) m30 R (R:4+3=7)).stp (T3 S36 S41 S45)).map (ren [(6,4),(7,5),(8,6)]) R R),((f42.stp S45).map (ren [(6,4),(7,5),(8,6)]) R R),(f46.map (ren [(6,4),(7,5),(8,6)]) R R)⟩<|KM R⟩⟩⟩⟩
 have S002:=(T3 S3 S7 S18)
 refine Jx3 (κ:=K6) (E:=E6) 4 R Y37 bG R λa9 u9 w50 K51 S52 f53=>⟨(S52.cl R),Jp1<|Jq1 (fuel:=0) [(3,1),(7,1),(8,2),(9,1)] (by kernel_rfl) (by kernel_rfl) R<|Jr3 R C246 (od (κ:=Mk K51) (p0:=p0.Arena) (Ji3<|g0_0_0.stp<|S002.tr S52) (Ji3<|g0_0_1.stp<|S002.tr S52) (Ji3<|g1.stp<|S002.tr S52) hx8) ?_⟩
 rintro _ w57 ⟨k58,ac,ad,af,ae,rfl,e59,f60,f61⟩
 obtain⟨K62,S63,m64⟩:=Ji e59 5 R
 exact⟨((S52.tr S63).cl R),Jy3 (κ:=K62) (E:=E6) 4 [] R Y37 bG R (f53.stp S63) (Sl.srcP (bP _)<|g0_1.stp<|T5 S3 S7 S18 S52 S63) bI hx12 R λab aa w70 K71 S72 f73=>⟨((T3 S52 S63 S72).cl R),Jf R (bK (parts:=[(0,.tmp 8),(1,.tmp 12)]) (cells:=[.slice ac x8.Owner.length ad,.slice af x8.Next.length ae,.slice ab x12.length aa]) R R (by kernel_rfl))<|Jv3 (κ:=K71) 3 (vc:=[.slice ac x8.Owner.length ad,.slice af x8.Next.length ae,.slice ab x12.length aa]) R Z79 R (f8.stp<|T4 S18 S52 S63 S72) R λw75 S76 f77=>⟨((T4 S52 S63 S72 S76).cl R),Jp1<|Jr1 [] (by kernel_rfl) (by kernel_rfl) R<|Jo<|Jw1 _ ⟨(λb=>ren [(7,4),(8,5),(4,6)]<|K71 b),ac,ad,af,ae,ab,aa,R,(Jy2 ((T5 S18 S52 S63 S72 S76).wk R) [(7,4),(8,5),(4,6)] R),(((f60.mx (bL _) m64 R (R:5+2=7)).stp (S72.tr S76)).map (ren [(7,4),(8,5),(4,6)]) R R),(((f61.mx (cR (bL _) _) m64 R (R:5+3=8)).stp (S72.tr S76)).map (ren [(7,4),(8,5),(4,6)]) R R),((f73.stp S76).map (ren [(7,4),(8,5),(4,6)]) R R),(f77.map (ren [(7,4),(8,5),(4,6)]) R R)⟩<|KM R⟩⟩⟩
 rintro _ w9 ⟨K10,ak,al,ai,ah,am,aj,rfl,S11,f13,f14,f15,f16⟩
 refine Jp<|Ju<|Ja2 (l:=[.cell 4 79]) V184 (bM R f16 I79 Z79 R R) R ?_
 cases h
 exact⟨(λb=>ren [(4,2),(5,3),(6,4)]<|K10 b),ak,al,ai,ah,am,aj,R,((hE.stp<|T3 S3 S7 S11).map (ren [(4,2),(5,3),(6,4)]) R R),(f13.map (ren [(4,2),(5,3),(6,4)]) R R),(f14.map (ren [(4,2),(5,3),(6,4)]) R R),(f15.map (ren [(4,2),(5,3),(6,4)]) R R)⟩
theorem oW {a0 u0}{p0:(List Int)}{p1:Int}(g0:Rd (Rp.int .i64) κ w 0 a0 u0 p0){r:Bool}(h:hU p0 p1=some r):Ret Tryz.prog 159 [.slice a0 p0.length u0,vi p1] w (Pvb κ w r):=by
 unfold hU at h
 refine Jk3 κ F159 R N159 R λhE=>Je [1,2] R<|Js3 (κ:=κ) 2 R λb3 w1 K2 S3 f4=>Tv<|Jb 1 R<|Jg3 [2,2,1,2,2] 1 R<|Jf R (gM (first:=[]) (captured:=[.tmp 3]) R R R ⟨_,R⟩)<|Ob h λx7 hx7 h=>Jr3 R C216 (dO (κ:=Mk K2) (Ji3<|g0.stp S3) (f4.map (mp [] 0) R R) hx7) ?_
 rintro _ w6 ⟨k7,rfl,e8⟩
 obtain⟨K9,S10,m11⟩:=Ji e8 3 R
 refine Tv<|Jb 2 R<|Ju<|Ja2 (l:=[.tmp 4]) V159 (Jp2 R R) R ?_
 cases h
 exact⟨K9,R,(hE.stp<|S3.tr S10)⟩
theorem kz {p0:Sig}{aa ad ac ab}{p1:Clause}(g1_1:Rd (Rp.int .i64) κ w 0 aa ad p1.A) (g1_2:Rd (Rp.int .i64) κ w 0 ac ab p1.B){r:Bool}(h:gw p0 p1=some r):Ret Tryz.prog 150 [.agg #[vi p0.In,vi p0.Out],.agg #[vi p1.Kind,.slice aa p1.A.length ad,.slice ac p1.B.length ab]] w (Pvb κ w r):=by
 unfold gw at h
 refine Jk3 κ F150 R N150 R λhE=>Je [1,1,2] R<|Js3 (κ:=κ) 2 R λb2 w1 K2 S3 f4=>Tv<|Js3 (κ:=K2) 3 R λb3 w5 K6 S7 f8=>Tv<|Jb 1 R<|Jq<|Je [1,1,2,2,2,1,1,2,2] R ?_
 have f9:=f4.stp S7
 refine Jb4 tv R (Jc4 (haE f9.cells) I28 Z28 R)<|Ob h λx7 hx7 h=>Jr3 R C58 (gz (κ:=Mk K6) (p0:=p0) hx7) ?_
 rintro _ w10 ⟨k11,rfl,e12⟩
 obtain⟨K13,S14,m15⟩:=Ji e12 4 R
 refine Tv<|Jn 2 R<|Ob h λp14 h hK17=>Jq3 [2,3] (λE L w'=>L=(14,.bool p14)::E/\∃κ',Stp [] K13 w10 κ' w') [(4,2),(5,1),(6,1),(7,2),(8,2)] [] tv ?_ ?_
 revert h
 cases ht18:(!x7)
 refine JF λh=>Jd3 R U67 R Z2<|Jb3 R I2 ((f8.stp S14).ld 0 R R)<|Ob h λx12 hx12 h=>Jr3 R C59 (cX (κ:=Mk K13) hx12) ?_
 rintro _ w20 ⟨k21,rfl,e22⟩
 obtain⟨K23,S24,m25⟩:=Ji e22 6 R
 refine Tv<|Jn 2 R ?_
 cases h
 exact Jv1 _ tv ⟨R,_,S24.wk R⟩<|KM R
 refine JT λh=>Jn 1 R<|Jz3 R<|Jz3 R<|Jn 2 R ?_
 cases h
 exact Jv1 _ tv ⟨R,_,Jj3⟩<|KM R
 rintro _ w27 _ ⟨rfl,K28,S29⟩
 have h:=hK17
 refine Jd ?_
 revert h
 cases ht30:p14
 refine JF λh=>Jy R<|Js<|Jp<|Je [1,1,2] R<|Jb4 tv R (Jc4 (haE (f9.stp<|S14.tr S29).cells) I28 Z28 R)<|Ob h λx16 hx16 h=>Jr3 R C120 (eu (κ:=Mk K28) (p0:=p0) hx16) ?_
 rintro _ w33 ⟨k34,rfl,e35⟩
 obtain⟨K36,S37,m38⟩:=Ji e35 6 R
 refine Tv<|Jb 1 R<|Je [2,1,2,1,2,2,1,2,1,2,2,2,1,1,2,2,1,2,2,2,2,2] R<|Jd3 R U67 R Z37 ?_
 have f40:=f8.stp (T3 S14 S29 S37)
 refine Jb3 R I37 (f40.ld 1 R R)<|Jn 1 R<|Ob h λx20 hx20 h=>Jr3 R C158 (lF (κ:=Mk K36) (Ji3<|g1_1.stp<|T5 S3 S7 S14 S29 S37) hx20) ?_
 rintro _ w42 ⟨k43,rfl,e44⟩
 obtain⟨K45,S46,m47⟩:=Ji e44 8 R
 refine Tv<|Jn 1 R<|Ob h λp26 h hK49=>Jq3 [3] (λE L w'=>L=(26,.bool p26)::E/\∃κ',Stp [] K45 w42 κ' w') [(5,2),(6,1),(7,2),(8,1),(9,2)] [(10,2),(11,2),(12,1),(13,1),(14,2),(15,2),(16,1),(17,2),(18,2),(19,2),(20,2),(21,2)] tv ?_ ?_
 revert h
 cases ht50:x20
 refine JF λh=>Jn 1 R<|Jz3 R<|Jn 1 R<|Jz3 R<|Jn 1 R ?_
 cases h
 exact Jv1 _ tv ⟨R,_,Jj3⟩<|KM R
 refine JT λh=>Jd3 R U67 R Z37<|Jb3 R I37 ((f40.stp S46).ld 2 R R)<|Jn 1 R<|Ob h λx25 hx25 h=>Jr3 R C158 (lF (κ:=Mk K45) (Ji3<|g1_2.stp<|T6 S3 S7 S14 S29 S37 S46) hx25) ?_
 rintro _ w53 ⟨k54,rfl,e55⟩
 obtain⟨K56,S57,m58⟩:=Ji e55 10 R
 refine Tv<|Jn 1 R ?_
 cases h
 exact Jv1 _ tv ⟨R,_,S57.wk R⟩<|KM R
 rintro _ w60 _ ⟨rfl,K61,S62⟩
 have h:=hK49
 refine Jn 1 R<|Ob h λp37 h hK63=>Ju1 [(11,2),(12,1),(13,1),(14,2),(15,2),(16,1),(17,2),(18,2),(19,2),(20,2)] [(21,2)] (λL w'=>L=[(37,.bool p37)]/\∃κ',Stp [] K61 w60 κ' w') tv ?_ ?_
 revert h
 cases ht64:p26
 refine JF λh=>Jn 1 R<|Jz3 R<|Jz3 R<|Jn 2 R<|Jz3 R<|Jn 4 R ?_
 cases h
 exact Jv1 _ tv ⟨R,_,Jj3⟩<|KM R
 refine JT λh=>Jd3 R U67 R Z2 ?_
 have f65:=f40.stp (S46.tr S62)
 refine Jb3 R I2 (f65.ld 0 R R)<|Ob h λx30 hx30 h=>Jr3 R C211 (rA (κ:=Mk K61) hx30) ?_
 rintro _ w66 ⟨k67,rfl,e68⟩
 obtain⟨K69,S70,m71⟩:=Ji e68 10 R
 refine Tv<|Jn 1 R<|Ob h λp36 h hK73=>Jq3 [27] (λE L w'=>L=(36,.bool p36)::E/\∃κ',Stp [] K69 w66 κ' w') [(15,2),(16,1),(17,2),(18,2),(19,2)] [(20,2)] tv ?_ ?_
 revert h
 cases ht74:x30
 refine JF λh=>Jd3 R U67 R Z37<|Jb3 R I37 ((f65.stp S70).ld 2 R R)<|Jn3 R U37 R R<|Jn 2 R ?_
 cases h
 exact Jv1 _ tv ⟨R,_,Jj3⟩<|KM R
 refine JT λh=>Jn 1 R<|Jz3 R<|Jn 3 R ?_
 cases h
 exact Jv1 _ tv ⟨R,_,Jj3⟩<|KM R
 rintro _ w76 _ ⟨rfl,K77,S78⟩
 have h:=hK73
 refine Jn 1 R ?_
 cases h
 exact Jv1 _ tv ⟨R,_,(S70.tr S78).wk R⟩<|KM R
 rintro _ w79 _ ⟨rfl,K80,S81⟩
 have h:=hK63
 refine Jb 1 R<|Ju<|Ja2 (l:=[.tmp 4]) V150 (Jp2 R R) R ?_
 cases h
 exact⟨K80,R,(hE.stp<|T8 S3 S7 S14 S29 S37 S46 S62 S81)⟩
 refine JT λh=>Jx R<|Je3 R<|Ju<|Jw<|Ja2 (l:=[.tmp 4]) V150 (Jp2 R R) R ?_
 cases h
 exact⟨K28,R,(hE.stp<|T4 S3 S7 S14 S29)⟩
theorem ni {a0 u0}{p0:(List Int)}{p1:Int}(g0:Rd (Rp.int .i64) κ w 0 a0 u0 p0){r:Bool}(h:jr p0 p1=some r):Ret Tryz.prog 80 [.slice a0 p0.length u0,vi p1] w (Pvb κ w r):=by
 unfold jr at h
 refine Jk3 κ F80 R N80 R λhE=>Je3 R<|Jg3 [2,1,2,2,2,1,2,2] 1 R<|Ob h λx6 hx6 h=>Jr3 R C59 (cX (κ:=Mk κ) hx6) ?_
 rintro _ w1 ⟨k2,rfl,e3⟩
 obtain⟨K4,S5,m6⟩:=Ji e3 2 R
 refine Tv<|Jn 1 R<|Ob h λp11 h hK8=>Jq3 [4] (λE L w'=>L=(11,.bool p11)::E/\∃κ',Stp [] K4 w1 κ' w') [(3,2),(4,2),(5,1),(6,2)] [(7,2)] tv ?_ ?_
 revert h
 cases ht9:x6
 refine JF λh=>Jn 2 R<|Jz3 R<|Jn 1 R ?_
 cases h
 exact Jv1 _ tv ⟨R,_,Jj3⟩<|KM R
 refine JT λh=>Jn 2 R<|Ob h λx10 hx10 h=>Jr3 R C158 (lF (κ:=Mk K4) (Ji3<|g0.stp S5) hx10) ?_
 rintro _ w11 ⟨k12,rfl,e13⟩
 obtain⟨K14,S15,m16⟩:=Ji e13 4 R
 refine Tv<|Jn 1 R ?_
 cases h
 exact Jv1 _ tv ⟨R,_,S15.wk R⟩<|KM R
 rintro _ w18 _ ⟨rfl,K19,S20⟩
 have h:=hK8
 refine Jb 1 R<|Ju<|Ja2 (l:=[.tmp 4]) V80 (Jp2 R R) R ?_
 cases h
 exact⟨K19,R,(hE.stp<|S5.tr S20)⟩
theorem qE {p0:Sig}{af ai ae ah}{p1:Det}{p2:Int}{p3:Int}(g1_0:Rd (Rp.sl (Rp.int .i64)) κ w 0 af ai p1.Next) (g1_1:Rd Pair.rp κ w 0 ae ah p1.Pairs){r:(List Int)}(h:j6 p0 p1 p2 p3=some r):Ret Tryz.prog 130 [.agg #[vi p0.In,vi p0.Out],.agg #[.slice af p1.Next.length ai,.slice ae p1.Pairs.length ah],vi p2,vi p3] w (λv w'=>∃(κ':Col) (ra0:Option Addr) (ru0:Nat),v= .slice ra0 r.length ru0/\Ent κ w κ' w'/\Rd (Rp.int .i64) κ' w' 0 ra0 ru0 r):=by
 unfold j6 at h
 refine Jk3 κ F130 R N130 R λhE=>Je [1,1,2] R<|Js3 (κ:=κ) 2 R λb4 w1 K2 S3 f4=>Tv<|Js3 (κ:=K2) 3 R λb5 w5 K6 S7 f8=>Tv<|Jb 1 R<|Je [1,2] R<|Jx3 (κ:=K6) (E:=E6) 4 R Y37 bG R λam al w9 K10 S11 f12=>Tv<|Jb 1 R<|Jq<|Je3 R<|Ob h λq2 hq15 hK14=>?_
 clear h
 obtain⟨K16,S17,z18⟩:=fV K10 w9 4
 refine Jx1 (λL w'=>∃κ',∃s3:(List Int)×Int,∃ad ab,L=[(9,.slice ad s3.1.length ab)]/\Stp [] K16 w9 κ' w'/\Rd (Rp.int .i64) κ' w' 0 ad ab s3.1/\q2=yD s3) ?_ ?_
 refine Jv<|Jp3 [2,3,4,5] (λk E L w'=>∃κ',∃s1:(List Int)×Int,∃ac aa,L=(9,.slice ac s1.1.length aa)::(10,vi s1.2)::E/\Stp [] K16 w9 κ' w'/\Rd (Rp.int .i64) κ' w' 0 ac aa s1.1/\ca (gq p0 p1 p2 p3) k s1=some q2) ⟨_,_,⟨K16,((([]:List Int):(List Int)),(0:Int)),am,al,R,Jj3,(Sl.st z18 f12.rdc),hq15⟩,(KM R)⟩ ?_
 rintro k _ w24 ⟨K25,s1,ac,aa,rfl,S26,f27,h⟩
 rcases k with _ | k
 cases h
 obtain⟨o13,h,hk28⟩:=BI h;unfold gq at h
 refine Jq<|Jg3 [2,2,1,1,2] 1 R<|Jd3 R U28 R Z2 ?_
 have f29:=f4.stp (T4 S7 S11 S17 S26)
 refine Jb3 R I2 (f29.ld 1 R R)<|Ob h λx15 hx15 h=>Jr3 R C62 (dq (κ:=Mk K25) hx15) ?_
 rintro _ w30 ⟨k31,rfl,e32⟩
 obtain⟨K33,S34,m35⟩:=Ji e32 5 R
 refine Tv<|Jb 1 R ?_
 revert h
 cases ht37:decide (s1.2<x15)
 refine JF λh=>Jy R<|Jc1<|Jt<|Jt ?_
 cases h
 have h:=hk28
 refine Jb1 ?_
 cases h
 exact Jw1 _ ⟨K33,(s1.1,s1.2),ac,aa,R,(S26.tr S34).wk R,(f27.stp S34),R⟩<|KM R
 refine JT λh=>Jx R<|Js<|Jp<|Jq<|Jv<|Js1 (κ:=K33) [0,2,3] none [(0,2),(1,2),(3,2),(7,2),(8,2),(2,0),(4,2),(5,0),(6,0),(9,1),(10,2),(11,0),(12,1),(13,2)] [] (by kernel_rfl) (by kernel_rfl) λw39 S38=>Jn 1 R<|Jd3 R U71 R Z31<|Jn 3 R<|Jg R (Jc2 I31 R R<|hvC ((f8.stp<|T5 S11 S17 S26 S34 S38).ld 0 R R) R)<|Ob h λx23 hx23 h=>Jc3 R g1_0 hx23 U31 Z37 ?_
 obtain⟨ax23,ux23,f42,hl43⟩:=(g1_0.stp (T7 S3 S7 S11 S17 S26 S34 S38)).gSl hx23
 refine Jg R (Jc2 I37 R R<|hvC hl43 R)<|Jg R (Jc4 (haC (f29.stp<|S34.tr S38).cells R) I28 Z28 R)<|Ob h λx28 hx28 h=>Jr3 R C94 (qp (κ:=Mk K33) (p0:=p0) hx28) ?_
 rintro _ w45 ⟨k46,rfl,e47⟩
 obtain⟨K48,S49,m50⟩:=Ji e47 7 R
 refine⟨(S49.cl R),Ob h λx29 hx29 h=>Jc3 R f42 hx29 U37 Z2<|Jg R (Jc2 I2 R R<|hvC (f42.gInt hx29) R)<|Ob h λx31 hx31 h=>Jr3 R C96 (sc (κ:=λb=>mp [] 1<|K48 b) (Jl2 (f27.stp<|T3 S34 S38 S49) (mp [] 1) R R) hx31) ?_⟩
 rintro _ w53 ⟨k54,aj,ak,rfl,e55,f56⟩
 obtain⟨K57,S58,m59,z60⟩:=Jj e55 9 R
 refine⟨((S49.tr S58).cl R),Jn 1 R<|Jt1<|Jo<|Jz<|Jp<|Jf3 R ?_⟩
 cases h
 exact Jz1 λa ha=>⟨k,_,Ja3 _,⟨K57,(x31,((IntKind.i64.wrap<|s1.2+1):Int)),aj,ak,R,(T5 S26 S34 S38 S49 S58).wk R,(f56.mx z60),hk28⟩,(ha.mm R)⟩
 rintro _ w20 ⟨K21,s3,ad,ab,rfl,S22,f23,rfl⟩
 have h:=yI hK14
 refine Jp<|Je3 R<|Ju<|Ja2 (l:=[.tmp 8]) V130 (Jp2 R R) R ?_
 cases h
 exact⟨K21,ad,ab,R,(hE.stp<|T5 S3 S7 S11 S17 S22),f23⟩
theorem ny {ac ab ad aa}{p0:Arena}(g0_0:Rd (Rp.int .i64) κ w 0 ac ab p0.Owner) (g0_1:Rd (Rp.sl (Rp.int .i64)) κ w 0 ad aa p0.Next){r:Bool}(h:jB p0=some r):Ret Tryz.prog 132 [.agg #[.slice ac p0.Owner.length ab,.slice ad p0.Next.length aa]] w (Pvb κ w r):=by
 unfold jB at h
 refine Jk3 κ F132 R N132 R λhE=>Je [1,2] R<|Js3 (κ:=κ) 2 R λb1 w1 K2 S3 f4=>Tv<|Jb 1 R<|Je [2,1,2,2] R<|Jd3 R U75 R Z37<|Jb3 R I37 (f4.ld 0 R R)<|Jn3 R U37 R R<|Jb 1 R<|Jq<|Jg3 [2,1,2,2,2,1,2,2,1,2,2,2] 1 R<|Ob h λx9 hx9 h=>Jr3 R C59 (cX (κ:=Mk K2) hx9) ?_
 rintro _ w5 ⟨k6,rfl,e7⟩
 obtain⟨K8,S9,m10⟩:=Ji e7 3 R
 refine Tv<|Jn 2 R<|Ob h λp19 h hK12=>Jq3 [1,3] (λE L w'=>L=(19,.bool p19)::E/\∃κ',Stp [] K8 w5 κ' w') [(4,2),(5,1),(6,2),(7,2),(8,1),(9,2),(10,2),(11,2)] [] tv ?_ ?_
 revert h
 cases ht13:(!x9)
 refine JF λh=>Jd3 R U75 R Z31 ?_
 have f14:=f4.stp S9
 refine Jb3 R I31 (f14.ld 1 R R)<|Jn3 R U31 R R<|Jd3 R U75 R Z37<|Jb3 R I37 (f14.ld 0 R R)<|Jn3 R U37 R R<|Jn 2 R ?_
 cases h
 exact Jv1 _ tv ⟨R,_,Jj3⟩<|KM R
 refine JT λh=>Jn 1 R<|Jz3 R<|Jn 2 R<|Jz3 R<|Jn 3 R ?_
 cases h
 exact Jv1 _ tv ⟨R,_,Jj3⟩<|KM R
 rintro _ w15 _ ⟨rfl,K16,S17⟩
 have h:=hK12
 refine Jd ?_
 revert h
 cases ht18:p19
 refine JF λh=>Jy R<|Js<|Jp<|Jq<|Je3 R ?_
 have hN20:(p0.Owner.length:Int)<=9223372036854775807:=g0_0.len_le
 refine Ob h λq2 hq22 hK21=>?_
 clear h
 refine Jx1 (λL w'=>∃κ',L=[]/\Stp [] K16 w15 κ' w'/\q2=yD ()) ?_ ?_
 refine Jv<|Jp3 [1,3] (λk E L w'=>∃κ' v4,L=(4,vi v4)::E/\Stp [] K16 w15 κ' w'/\0<=v4/\yG ((p0.Owner.length:Int)-v4)=k/\cntM (gP p0) k v4 ()=some q2) ⟨_,_,⟨K16,0,R,Jj3,(by decide),(by simp),hq22⟩,(KM R)⟩ ?_
 rintro k _ w26 ⟨K27,v4,rfl,S28,hj20,hJ20,h⟩
 rcases k with _ | k
 have hk29:=h;obtain⟨o20,h⟩:=bT (yD (yE ()):Bool⊕((Unit)⊕(Unit)))
 have hc20:decide (v4<(p0.Owner.length:Int))=false:=Jo2 (by omega)
 refine Jq<|Jg3 [2,2,1,2,2] 1 R<|Jd3 R U75 R Z37<|Jb3 R I37 ((f4.stp<|T3 S9 S17 S28).ld 0 R R)<|Jn3 R U37 R R<|Jb 1 R<|Jw2 R hc20<|Jc1<|Jt<|Jt ?_
 cases h
 have h:=hk29
 refine Jb1 ?_
 cases h
 exact Jw1 _ ⟨K27,R,S28.wk R,R⟩ KN
 obtain⟨o20,h,hk29⟩:=BI h;unfold gP at h
 have hc20:decide (v4<(p0.Owner.length:Int))=true:=Jn2 (by omega)
 refine Jq<|Jg3 [2,2,1,2,2] 1 R<|Jd3 R U75 R Z37 ?_
 have f31:=f4.stp (T3 S9 S17 S28)
 refine Jb3 R I37 (f31.ld 0 R R)<|Jn3 R U37 R R<|Jb 1 R<|Jv2 R hc20<|Js<|Jp<|Jq<|Jv<|Je [2,1,2,2,1,1,2,2,2,1,2,2,1,2,2,2,2,2,1,2,2,1,2,2,2,2,2,1,2,2,1,2,1,2,2] R<|Jd3 R U75 R Z37<|Jb3 R I37 (f31.ld 0 R R)<|Jn 1 R<|Ob h λx30 hx30 h=>Jc3 R g0_0 hx30 U37 Z2<|Jb3 R I2 ((g0_0.stp<|T4 S3 S9 S17 S28).gInt hx30)<|Ob h λx32 hx32 h=>Jr3 R C59 (cX (κ:=Mk K27) hx32) ?_
 rintro _ w33 ⟨k34,rfl,e35⟩
 obtain⟨K36,S37,m38⟩:=Ji e35 5 R
 refine Tv<|Jn 2 R<|Ob h λp42 h hK40=>Jq3 [1,3,4] (λE L w'=>L=(42,.bool p42)::E/\∃κ',Stp [] K36 w33 κ' w') [(8,2),(9,1),(10,2),(11,2),(12,1),(13,2),(14,2),(15,2)] [(16,2),(17,2),(18,1),(19,2),(20,2),(21,1),(22,2),(23,2),(24,2),(25,2),(26,2),(27,1),(28,2),(29,2),(30,1),(31,2),(32,1),(33,2),(34,2)] tv ?_ ?_
 revert h
 cases ht41:(!x32)
 refine JF λh=>Jd3 R U75 R Z31<|Jb3 R I31 ((f31.stp S37).ld 1 R R)<|Jn 1 R<|Ob h λx38 hx38 h=>Jc3 R g0_1 hx38 U31 Z37 ?_
 obtain⟨ax38,ux38,f44,hl45⟩:=(g0_1.stp (T5 S3 S9 S17 S28 S37)).gSl hx38
 refine Jb3 R I37 hl45<|Jn3 R U37 R R<|Jn 2 R ?_
 cases h
 exact Jv1 _ tv ⟨R,_,Jj3⟩<|KM R
 refine JT λh=>Jn 1 R<|Jz3 R<|Jn 2 R<|Jz3 R<|Jn 3 R ?_
 cases h
 exact Jv1 _ tv ⟨R,_,Jj3⟩<|KM R
 rintro _ w46 _ ⟨rfl,K47,S48⟩
 have h:=hK40
 refine Jn 1 R<|Ob h λp51 h hK49=>Jq3 [1,3,4] (λE L w'=>L=(51,.bool p51)::E/\∃κ',Stp [] K47 w46 κ' w') [(17,2),(18,1),(19,2),(20,2),(21,1),(22,2),(23,2),(24,2)] [(25,2),(26,2),(27,1),(28,2),(29,2),(30,1),(31,2),(32,1),(33,2),(34,2)] tv ?_ ?_
 revert h
 cases ht50:p42
 refine JF λh=>Jd3 R U75 R Z31<|Jb3 R I31 ((f31.stp<|S37.tr S48).ld 1 R R)<|Jn 1 R<|Ob h λx47 hx47 h=>Jc3 R g0_1 hx47 U31 Z37 ?_
 obtain⟨ax47,ux47,f53,hl54⟩:=(g0_1.stp (T6 S3 S9 S17 S28 S37 S48)).gSl hx47
 refine Jb3 R I37 hl54<|Jn3 R U37 R R<|Jn 2 R ?_
 cases h
 exact Jv1 _ tv ⟨R,_,Jj3⟩<|KM R
 refine JT λh=>Jn 1 R<|Jz3 R<|Jn 2 R<|Jz3 R<|Jn 3 R ?_
 cases h
 exact Jv1 _ tv ⟨R,_,Jj3⟩<|KM R
 rintro _ w55 _ ⟨rfl,K56,S57⟩
 have h:=hK49
 refine Jn 1 R<|Ob h λp61 h hK58=>Jq3 [1,3,4] (λE L w'=>L=(61,.bool p61)::E/\∃κ',Stp [] K56 w55 κ' w') [(26,2),(27,1),(28,2),(29,2),(30,1),(31,2),(32,1),(33,2),(34,2)] [] tv ?_ ?_
 revert h
 cases ht59:p51
 refine JF λh=>Jd3 R U75 R Z31<|Jb3 R I31 ((f31.stp<|T3 S37 S48 S57).ld 1 R R)<|Jn 1 R<|Ob h λx56 hx56 h=>Jc3 R g0_1 hx56 U31 Z37 ?_
 obtain⟨ax56,ux56,f62,hl63⟩:=(g0_1.stp (T7 S3 S9 S17 S28 S37 S48 S57)).gSl hx56
 refine Jb3 R I37 hl63<|Jn 1 R<|Ob h λx59 hx59 h=>Jr3 R C158 (lF (κ:=Mk K56) (Ji3 f62) hx59) ?_
 rintro _ w64 ⟨k65,rfl,e66⟩
 obtain⟨K67,S68,m69⟩:=Ji e66 7 R
 refine Tv<|Jn 2 R ?_
 cases h
 exact Jv1 _ tv ⟨R,_,S68.wk R⟩<|KM R
 refine JT λh=>Jn 1 R<|Jz3 R<|Jn 2 R<|Jz3 R<|Jn 1 R<|Jz3 R<|Jn 2 R ?_
 cases h
 exact Jv1 _ tv ⟨R,_,Jj3⟩<|KM R
 rintro _ w71 _ ⟨rfl,K72,S73⟩
 have h:=hK58
 refine Jd ?_
 revert h
 cases ht74:p61
 refine JF λh=>Jy R<|Js<|Jz<|Jp<|Jf3 R ?_
 have hw20:yC .i64 (v4+1)=v4+1:=wr1 hj20 (Jm2 hc20) hN20
 rw[hw20]
 have hc20:=Jm2 hc20
 cases h
 exact Jz1 λa ha=>⟨k,_,Ja3 _,⟨K72,v4+1,R,(T5 S28 S37 S48 S57 S73).wk R,by omega,by omega,hk29⟩,(ha.mm R)⟩
 refine JT λh=>Jx R<|Je3 R<|Ju<|Ja1<|Jw<|Jw ?_
 cases h
 obtain rfl:=Option.some.inj hk29
 have h:=yL hK21
 refine Ja1<|Jq2<|Jw<|Ja2 (l:=[.tmp 2]) V132 (Jp2 R R) R ?_
 cases h
 exact⟨K72,R,(hE.stp<|T8 S3 S9 S17 S28 S37 S48 S57 S73)⟩
 rintro _ w23 ⟨K24,rfl,S25,rfl⟩
 have h:=yI hK21
 refine Jp<|Je3 R<|Ju<|Ja2 (l:=[.tmp 2]) V132 (Jp2 R R) R ?_
 cases h
 exact⟨K24,R,(hE.stp<|T4 S3 S9 S17 S25)⟩
 refine JT λh=>Jx R<|Je3 R<|Ju<|Jw<|Ja2 (l:=[.tmp 2]) V132 (Jp2 R R) R ?_
 cases h
 exact⟨K16,R,(hE.stp<|T3 S3 S9 S17)⟩
theorem tW (n:Nat):∀{w:World}{κ:Col}{ad aj ae am ac ah ak al ai af}{p0:l7Game}{a1 u1}{p1:(List Bool)}(g0_0:Rd (Rp.int .i64) κ w 0 ad aj p0.owner) (g0_1:Rd (Rp.int .i64) κ w 0 ae am p0.prio) (g0_2:Rd (Rp.sl (Rp.int .i64)) κ w 0 ac ah p0.next) (g0_3:Rd (Rp.sl (Rp.int .i64)) κ w 0 ak al p0.prev) (g0_4:Rd (Rp.int .i64) κ w 0 ai af p0.pick) (g1:Rd Rp.bool κ w 0 a1 u1 p1){r:(List Bool)}(h:jq n p0 p1=some r),Ret Tryz.prog 250 [.agg #[.slice ad p0.owner.length aj,.slice ae p0.prio.length am,.slice ac p0.next.length ah,.slice ak p0.prev.length al,.slice ai p0.pick.length af],.slice a1 p1.length u1] w (Pvs Ep.bool 4 κ w r):=by
 induction n with
 | zero=>
  intro w κ ad aj ae am ac ah ak al ai af p0 a1 u1 p1 g0_0 g0_1 g0_2 g0_3 g0_4 g1 r h
  cases h
 | succ n ih=>
  intro w κ ad aj ae am ac ah ak al ai af p0 a1 u1 p1 g0_0 g0_1 g0_2 g0_3 g0_4 g1 r h
  have h:iF (jq n) p0 p1=some r:=h
  unfold iF at h
  refine Jk3 κ F250 R N250 R λhE=>Je [1,2] R<|Js3 (κ:=κ) 2 R λb2 w1 K2 S3 f4=>Tv<|Jb 1 R<|Je [1,2,1,2] R<|Jb4 tv R (Jc4 (haE f4.cells) I210 Z210 R)<|Jn 1 R<|Ob h λx21 hx21 h=>?_
  have f5:=g0_0.stp S3
  have f6:=g0_1.stp S3
  have f7:=g0_2.stp S3
  have f8:=g0_3.stp S3
  have f9:=g0_4.stp S3
  have f10:=g1.stp S3
  refine Jr3 R C270 (tC (κ:=Mk K2) (p0:=p0) (Ji3 f5) (Ji3 f6) (Ji3 f7) (Ji3 f8) (Ji3 f9) (Ji3 f10) hx21) ?_
  rintro _ w11 ⟨k12,rfl,e13⟩
  obtain⟨K14,S15,m16⟩:=Ji e13 3 R
  refine Tv<|Jb 1 R<|Jg3 [2,2,1,2] 1 R<|Jn3 R U178 R R<|Ob h λx24 hx24 h=>Jl1 (κ:=K14) (E:=Ep.bool) (z:=(false:Bool)) 5 R R R R R R R Y178 du R R R R R (λ_ _ _=>R) (Ju2 hx24) λaa ab w18 K19 S20 f21=>Tv<|Jb 1 R<|Jq<|Je3 R ?_
  revert h
  cases ht22:decide (x21<0)
  refine JF λh=>Jy R<|Js<|Jp<|Jg3 [2,2,2] 1 R<|Jf R (tJ R R R (by decide))<|Jb 1 R<|Jg3 [2,2,1,2] 1 R<|Jn3 R U178 R R<|Ob h λx32 hx32 h=>Jl1 (κ:=K19) (E:=Ep.bool) (z:=(false:Bool)) 6 R R R R R R R Y178 du R R R R R (λ_ _ _=>R) (Ju2 hx32) λan ao w24 K25 S26 f27=>Tv<|Jb 1 R<|Jq<|Je3 R ?_
  have hN28:(p1.length:Int)<=9223372036854775807:=f10.len_le
  refine Ob h λq2 hq30 hK29=>?_
  clear h
  refine Jo3 [1,2,6,7,8] (λE L w'=>∃κ',∃s3:(List Bool),L=E/\Stp [6] K25 w24 κ' w'/\Oc Ep.bool 4 κ' w' 6 an ao s3/\x32.length=s3.length/\q2=yD s3) ?_ ?_
  refine Jv<|Jp3 [1,2,5,6,7,8] (λk E L w'=>∃κ' v9,∃s1:(List Bool),L=(9,vi v9)::E/\Stp [6] K25 w24 κ' w'/\Oc Ep.bool 4 κ' w' 6 an ao s1/\x32.length=s1.length/\0<=v9/\yG ((p1.length:Int)-v9)=k/\cntM (jG p0 p1 x21) k v9 s1=some q2) ⟨_,_,⟨K25,0,x32,R,Jj3,f27,R,(by decide),(by simp),hq30⟩,(KM R)⟩ ?_
  rintro k _ w36 ⟨K37,v9,s1,rfl,S38,f39,hn40,hj28,hJ28,h⟩
  rcases k with _ | k
  have hk41:=h;obtain⟨o28,h⟩:=bT (yD (yE s1):(List Bool)⊕(((List Bool))⊕((List Bool))))
  have hc28:decide (v9<(p1.length:Int))=false:=Jo2 (by omega)
  refine Jq<|Jg3 [2,2,2,2] 2 R<|Jn3 R U178 R R<|Jb 1 R<|Jw2 R hc28<|Jc1<|Jt<|Jt ?_
  cases h
  have h:=hk41
  refine Jb1 ?_
  cases h
  exact Jw1 _ ⟨K37,s1,R,S38.wk R,f39,hn40,R⟩<|KM R
  obtain⟨o28,h,hk41⟩:=BI h;unfold jG at h
  have hc28:decide (v9<(p1.length:Int))=true:=Jn2 (by omega)
  refine Jq<|Jg3 [2,2,2,2] 2 R<|Jn3 R U178 R R<|Jb 1 R<|Jv2 R hc28<|Js<|Jp<|Jq<|Jv<|Jh3 [2,2,2,2,2,1,2,2,1,2,2,1,2,2,2,2,1] 4 R<|Ob h λx43 hx43 h=>Jc3 R f10 hx43 U178 Z4<|Jb3 R I4 ((f10.stp<|T4 S15 S20 S26 S38).gBool hx43)<|Jn 1 R<|Ob h λp53 h hK43=>Jq3 [1,2,5,6,7,8,9,39,40] (λE L w'=>L=(53,.bool p53)::E/\∃κ',Stp [] K37 w36 κ' w') [(7,2),(8,1),(9,2),(10,2),(11,1),(12,2),(13,2),(14,2)] [(15,2),(16,1)] tv ?_ ?_
  revert h
  cases ht44:x43
  refine JF λh=>Jn 1 R<|Jz3 R<|Jn 2 R<|Jz3 R<|Jn 3 R ?_
  cases h
  exact Jv1 _ tv ⟨R,_,Jj3⟩<|KM R
  have S001:=(T4 S15 S20 S26 S38)
  refine JT λh=>Jd3 R U210 R Z37<|Jb3 R I37 ((f4.stp S001).ld 1 R R)<|Jn 1 R<|Ob h λx49 hx49 h=>Jc3 R f6 hx49 U37 Z2<|Jb3 R I2 ((f6.stp S001).gInt hx49)<|Jn 3 R ?_
  cases h
  exact Jv1 _ tv ⟨R,_,Jj3⟩<|KM R
  rintro _ w47 _ ⟨rfl,K48,S49⟩
  have h:=hK43
  refine Ob h λx54 hx54 h=>Jf R (Jf2 f39.rdc hx54 U178 Z4 R R hn40 R)<|Ob h λy380 hy380 h=>Jk1 (κ:=K48) (E:=Ep.bool) 6 [] R R R R R R R R Z4 R R R R (f39.stp S49) hy380 λw51 K52 S53 f54=>Tv<|?_
  have hn55:x32.length=y380.length:=hn40.trans (Jt2 hy380).2.2.2.symm
  refine Jo<|Jz<|Jp<|Jf3 R ?_
  have hw28:yC .i64 (v9+1)=v9+1:=wr1 hj28 (Jm2 hc28) hN28
  rw[hw28]
  have hc28:=Jm2 hc28
  cases h
  exact Jz1 λa ha=>⟨k,_,Ja3 _,⟨K52,v9+1,y380,R,(T3 S38 S49 S53).wk R,f54,hn55,by omega,by omega,hk41⟩,(ha.mm R)⟩
  rintro _ w31 ⟨K32,s3,rfl,S33,f34,hn35,rfl⟩
  have h:=yI hK29
  refine Jp<|Jg3 [2,1,2,2,2,1,1,2] 1 R ?_
  have f56:=f4.stp (T4 S15 S20 S26 S33)
  refine Jb4 tv R (Jc4 (haE f56.cells) I210 Z210 R)<|Jn 3 R<|Ob h λx60 hx60 h=>?_
  have f57:=f5.stp (T4 S15 S20 S26 S33)
  have f58:=f6.stp (T4 S15 S20 S26 S33)
  have f59:=f7.stp (T4 S15 S20 S26 S33)
  have f60:=f8.stp (T4 S15 S20 S26 S33)
  have f61:=f9.stp (T4 S15 S20 S26 S33)
  have f62:=f10.stp (T4 S15 S20 S26 S33)
  refine Jr3 R C272 (Ret.cast (by simp only[hn35,List.cons_append,List.nil_append])<|mF (κ:=Mk K32) (p0:=p0) (Ji3 f57) (Ji3 f58) (Ji3 f59) (Ji3 f60) (Ji3 f61) (Ji3 f62) (Ji3 f34.rdc) hx60) ?_
  rintro _ w63 ⟨k64,av,aE,rfl,e65,f66⟩
  obtain⟨K67,S68,m69⟩:=Ji e65 7 R
  refine Tv<|Ob h λx61 hx61 h=>?_
  have f72:=f62.stp S68
  refine Jr3 R C271 (oK (κ:=Mk K67) (Ji3 f72) (Ji3 (f66.mx dU m69 R (R:7+2=9)).rdc) hx61) ?_
  rintro _ w73 ⟨k74,ay,az,rfl,e75,f76⟩
  obtain⟨K77,S78,m79⟩:=Ji e75 10 R
  refine Tv<|?_
  have f81:=f76.mx dU m79 R (R:10+2=12)
  refine Jb 1 R<|Je [1,2,1,2] R ?_
  have f82:=f56.stp (S68.tr S78)
  refine Jb4 tv R (Jc4 (haE f82.cells) I210 Z210 R)<|Jn 1 R<|Ob h λx64 hx64 h=>?_
  have f83:=f57.stp (S68.tr S78)
  have f84:=f58.stp (S68.tr S78)
  have f85:=f59.stp (S68.tr S78)
  have f86:=f60.stp (S68.tr S78)
  have f87:=f61.stp (S68.tr S78)
  refine Jr3 R C250 (ih (κ:=Mk K77) (p0:=p0) (Ji3 f83) (Ji3 f84) (Ji3 f85) (Ji3 f86) (Ji3 f87) (Ji3 f81.rdc) hx64) ?_
  rintro _ w88 ⟨k89,aD,aC,rfl,e90,f91⟩
  obtain⟨K92,S93,m94⟩:=Ji e90 13 R
  refine Tv<|?_
  have f96:=f91.mx dU m94 R (R:13+2=15)
  refine Jb 1 R<|Jg3 [2,2,1,2] 1 R<|Jn3 R U178 R R<|Ob h λx67 hx67 h=>Jl1 (κ:=K92) (E:=Ep.bool) (z:=(false:Bool)) 16 R R R R R R R Y178 du R R R R R (λ_ _ _=>R) (Ju2 hx67) λaq ap w97 K98 S99 f100=>Tv<|Jb 1 R<|Je3 R<|Jq<|Je3 R ?_
  have hN101:(p1.length:Int)<=9223372036854775807:=f72.len_le
  refine Ob h λq5 hq103 hK102=>?_
  clear h
  refine Jo3 [1,2,6,7,12] (λE L w'=>∃κ',∃s6:Bool×(List Bool),L=(13,.bool s6.1)::E/\Stp [16] K98 w97 κ' w'/\Oc Ep.bool 4 κ' w' 16 aq ap s6.2/\x67.length=s6.2.length/\q5=yD s6) ?_ ?_
  refine Jv<|Jp3 [1,2,6,7,10,11,12] (λk E L w'=>∃κ' v14,∃s4:Bool×(List Bool),L=(13,.bool s4.1)::(14,vi v14)::E/\Stp [16] K98 w97 κ' w'/\Oc Ep.bool 4 κ' w' 16 aq ap s4.2/\x67.length=s4.2.length/\0<=v14/\yG ((p1.length:Int)-v14)=k/\cntM (iH x21 x61 x64) k v14 s4=some q5) ⟨_,_,⟨K98,0,(false,x67),R,Jj3,f100,R,(by decide),(by simp),hq103⟩,(KM R)⟩ ?_
  rintro k _ w109 ⟨K110,v14,s4,rfl,S111,f112,hn113,hj101,hJ101,h⟩
  rcases k with _ | k
  have hk114:=h;obtain⟨o101,h⟩:=bT (yD (yE s4):(List Bool)⊕((Bool×(List Bool))⊕(Bool×(List Bool))))
  have hc101:decide (v14<(p1.length:Int))=false:=Jo2 (by omega)
  refine Jq<|Jg3 [2,2,2,2] 2 R<|Jn3 R U178 R R<|Jb 1 R<|Jw2 R hc101<|Jc1<|Jt<|Jt ?_
  cases h
  have h:=hk114
  refine Jb1 ?_
  cases h
  exact Jw1 _ ⟨K110,(s4.1,s4.2),R,S111.wk R,f112,hn113,R⟩<|KM R
  obtain⟨o101,h,hk114⟩:=BI h;unfold iH at h
  have hc101:decide (v14<(p1.length:Int))=true:=Jn2 (by omega)
  refine Jq<|Jg3 [2,2,2,2] 2 R<|Jn3 R U178 R R<|Jb 1 R<|Jv2 R hc101<|Js<|Jp<|Jq<|Jv<|Jg3 [2,2,2,2,2,1,2,2,2,2,1,2,2,2,2,2,1] 4 R<|Ob h λx78 hx78 h=>Jc3 R f81.rdc hx78 U178 Z4<|Jb3 R I4 ((f81.stp<|T3 S93 S99 S111).rdc.gBool hx78)<|Jn 1 R<|Ob h λp88 h hK116=>Jq3 [1,2,6,7,10,11,12,13,14,74,75] (λE L w'=>L=(88,.bool p88)::E/\∃κ',Stp [] K110 w109 κ' w') [(7,2),(8,2),(9,2),(10,1),(11,2),(12,2),(13,2),(14,2)] [(15,2),(16,1)] tv ?_ ?_
  revert h
  cases ht117:x78
  refine JF λh=>Jn 3 R<|Jz3 R<|Jn 4 R ?_
  cases h
  exact Jv1 _ tv ⟨R,_,Jj3⟩<|KM R
  refine JT λh=>Jn 2 R<|Ob h λx83 hx83 h=>Jc3 R f96.rdc hx83 U178 Z4<|Jb3 R I4 ((f96.stp<|S99.tr S111).rdc.gBool hx83)<|Jn 2 R<|Jf R (uo R R U4 R)<|Jn 1 R ?_
  cases h
  exact Jv1 _ tv ⟨R,_,Jj3⟩<|KM R
  rintro _ w119 _ ⟨rfl,K120,S121⟩
  have h:=hK116
  refine Ob h λx89 hx89 h=>Jf R (Jf2 f112.rdc hx89 U178 Z4 R R hn113 R)<|Ob h λy398 hy398 h=>Jk1 (κ:=K120) (E:=Ep.bool) 16 [] R R R R R R R R Z4 R R R R (f112.stp S121) hy398 λw123 K124 S125 f126=>Tv<|?_
  have hn127:x67.length=y398.length:=hn113.trans (Jt2 hy398).2.2.2.symm
  refine Jd<|Jh3 [2,2,2,2,2,1,2,2] 2 R<|Ob h λp96 h hK128=>Jq3 [1,2,6,7,10,11,12,13,14] (λE L w'=>L=(96,.bool p96)::E/\∃κ',Stp [] K124 w123 κ' w') [(2,2),(3,2),(4,2),(5,1),(6,2)] [(7,2)] tv ?_ ?_
  revert h
  cases ht129:s4.1
  refine JF λh=>Jn 2 R<|Ob h λx94 hx94 h=>Jf R (Jf2 f126.rdc hx94 U178 Z4 R R hn127 R)<|Jb3 R I4 (f126.rdc.gBool hx94)<|Jn 1 R ?_
  cases h
  exact Jv1 _ tv ⟨R,_,Jj3⟩<|KM R
  refine JT λh=>Jn 3 R<|Jz3 R<|Jn 1 R ?_
  cases h
  exact Jv1 _ tv ⟨R,_,Jj3⟩<|KM R
  rintro _ w130 _ ⟨rfl,K131,S132⟩
  have h:=hK128
  refine Jc 1 R<|Jz<|Jp<|Jf3 R ?_
  have hw101:yC .i64 (v14+1)=v14+1:=wr1 hj101 (Jm2 hc101) hN101
  rw[hw101]
  have hc101:=Jm2 hc101
  cases h
  exact Jz1 λa ha=>⟨k,_,Ja3 _,⟨K131,v14+1,(p96,y398),R,(T4 S111 S121 S125 S132).wk R,(f126.stp S132),hn127,by omega,by omega,hk114⟩,(ha.mm R)⟩
  rintro _ w104 ⟨K105,s6,rfl,S106,f107,hn108,rfl⟩
  have h:=yI hK102
  refine Jp<|Jq<|Je3 R ?_
  revert h
  cases ht134:(!s6.1)
  refine JF λh=>Jy R<|Js<|Jp<|Je [1,2,2,2,2,1,2] R ?_
  have f163:=f82.stp (T3 S93 S99 S106)
  refine Jb4 tv R (Jc4 (haE f163.cells) I210 Z210 R)<|Jn 4 R<|Ob h λx122 hx122 h=>?_
  have f164:=f83.stp (T3 S93 S99 S106)
  have f165:=f84.stp (T3 S93 S99 S106)
  have f166:=f85.stp (T3 S93 S99 S106)
  have f167:=f86.stp (T3 S93 S99 S106)
  have f168:=f87.stp (T3 S93 S99 S106)
  have f169:=f72.stp (T4 S78 S93 S99 S106)
  refine Jr3 R C272 (Ret.cast (by simp only[hn108,List.cons_append,List.nil_append])<|mF (κ:=Mk K105) (p0:=p0) (Ji3 f164) (Ji3 f165) (Ji3 f166) (Ji3 f167) (Ji3 f168) (Ji3 f169) (Ji3 f107.rdc) hx122) ?_
  rintro _ w170 ⟨k171,ax,aB,rfl,e172,f173⟩
  obtain⟨K174,S175,m176⟩:=Ji e172 17 R
  refine Tv<|Jb 1 R<|Jq<|Js1 (κ:=K174) [2] none [(1,2),(2,2),(0,0),(3,1),(4,1),(5,2)] [] (by kernel_rfl) (by kernel_rfl) λw180 S179=>Jn 2 R<|Jg R (Jc4 (haC (f163.stp<|S175.tr S179).cells R) I210 Z210 R)<|Ob h λx126 hx126 h=>?_
  have f182:=f169.stp (S175.tr S179)
  have f183:=(f173.mx dU m176 R (R:17+2=19)).stp S179
  refine Jr3 R C271 (oK (κ:=Mk K174) (Ji3 f182) (Ji3 f183.rdc) hx126) ?_
  rintro _ w184 ⟨k185,ar,au,rfl,e186,f187⟩
  obtain⟨K188,S189,m190⟩:=Ji e186 20 R
  have S002:=(T3 S175 S179 S189)
  refine⟨(S189.cl R),Ob h λx127 hx127 h=>Jr3 R C250 (ih (κ:=Mk K188) (p0:=p0) (Ji3<|f164.stp S002) (Ji3<|f165.stp S002) (Ji3<|f166.stp S002) (Ji3<|f167.stp S002) (Ji3<|f168.stp S002) (Ji3 (f187.mx dU m190 R (R:20+2=22)).rdc) hx127) ?_⟩
  rintro _ w198 ⟨k199,aw,aA,rfl,e200,f201⟩
  obtain⟨K202,S203,m204⟩:=Ji e200 23 R
  refine⟨((S189.tr S203).cl R),?_⟩
  have f206:=f201.mx dU m204 R (R:23+2=25)
  refine Jn 1 R<|Jt1<|Jd<|Jq<|Je3 R ?_
  have hN207:(p1.length:Int)<=9223372036854775807:=f182.len_le
  refine Ob h λq11 hq209 hK208=>?_
  clear h
  refine Jo3 [6] (λE L w'=>∃κ',∃s12:(List Bool),L=E/\Stp [5] K202 w198 κ' w'/\Oc Ep.bool 4 κ' w' 5 aa ab s12/\x24.length=s12.length/\q11=yD s12) ?_ ?_
  refine Jv<|Jp3 [1,6,7,16,17] (λk E L w'=>∃κ' v18,∃s10:(List Bool),L=(18,vi v18)::E/\Stp [5] K202 w198 κ' w'/\Oc Ep.bool 4 κ' w' 5 aa ab s10/\x24.length=s10.length/\0<=v18/\yG ((p1.length:Int)-v18)=k/\cntM (jT x21 x122 x127) k v18 s10=some q11) ⟨_,_,⟨K202,0,x24,R,Jj3,(f21.stp<|T11 S26 S33 S68 S78 S93 S99 S106 S175 S179 S189 S203),R,(by decide),(by simp),hq209⟩,(KM R)⟩ ?_
  rintro k _ w215 ⟨K216,v18,s10,rfl,S217,f218,hn219,hj207,hJ207,h⟩
  rcases k with _ | k
  have hk221:=h;obtain⟨o207,h⟩:=bT (yD (yE s10):(List Bool)⊕(((List Bool))⊕((List Bool))))
  have hc207:decide (v18<(p1.length:Int))=false:=Jo2 (by omega)
  refine Jq<|Jg3 [2,2,2,2] 2 R<|Jn3 R U178 R R<|Jb 1 R<|Jw2 R hc207<|Jc1<|Jt<|Jt ?_
  cases h
  have h:=hk221
  refine Jb1 ?_
  cases h
  exact Jw1 _ ⟨K216,s10,R,S217.wk R,f218,hn219,R⟩<|KM R
  obtain⟨o207,h,hk221⟩:=BI h;unfold jT at h
  have hc207:decide (v18<(p1.length:Int))=true:=Jn2 (by omega)
  refine Jq<|Jg3 [2,2,2,2] 2 R<|Jn3 R U178 R R<|Jb 1 R<|Jv2 R hc207<|Js<|Jp<|Jq<|Jv<|Jh3 [2,2,2,2,2,1,2,2,2,2,1,2,2,2,2,2,2,1] 4 R<|Ob h λx138 hx138 h=>Jc3 R f206.rdc hx138 U178 Z4<|Jb3 R I4 ((f206.stp S217).rdc.gBool hx138)<|Jn 1 R<|Ob h λp149 h hK223=>Jq3 [1,6,7,16,17,18,134,135] (λE L w'=>L=(149,.bool p149)::E/\∃κ',Stp [] K216 w215 κ' w') [(7,2),(8,2),(9,2),(10,1),(11,2),(12,2),(13,2),(14,2),(15,2)] [(16,2),(17,1)] tv ?_ ?_
  revert h
  cases ht224:x138
  refine JF λh=>Jn 2 R<|Ob h λx143 hx143 h=>Jc3 R f183.rdc hx143 U178 Z4<|Jb3 R I4 ((f183.stp<|T3 S189 S203 S217).rdc.gBool hx143)<|Jn 1 R<|Ob h λp148 h hK226=>Jq3 [1,6,7,16,17,18,134,135,140,141,142,143,144,145] (λE L w'=>L=(148,.bool p148)::E/\∃κ',Stp [] K216 w215 κ' w') [(12,2),(13,2),(14,2)] [(15,2)] tv ?_ ?_
  revert h
  cases ht227:x143
  refine JF λh=>Jn 3 R ?_
  cases h
  exact Jv1 _ tv ⟨R,_,Jj3⟩<|KM R
  refine JT λh=>Jn 3 R ?_
  cases h
  exact Jv1 _ tv ⟨R,_,Jj3⟩<|KM R
  rintro _ w228 _ ⟨rfl,K229,S230⟩
  have h:=hK226
  refine Jn 1 R ?_
  cases h
  exact Jv1 _ tv ⟨R,_,S230.wk R⟩<|KM R
  refine JT λh=>Jn 3 R<|Jz3 R<|Jn 5 R ?_
  cases h
  exact Jv1 _ tv ⟨R,_,Jj3⟩<|KM R
  rintro _ w231 _ ⟨rfl,K232,S233⟩
  have h:=hK223
  refine Ob h λx150 hx150 h=>Jf R (Jf2 f218.rdc hx150 U178 Z4 R R hn219 R)<|Ob h λy403 hy403 h=>Jk1 (κ:=K232) (E:=Ep.bool) 5 [] R R R R R R R R Z4 R R R R (f218.stp S233) hy403 λw235 K236 S237 f238=>Tv<|?_
  have hn239:x24.length=y403.length:=hn219.trans (Jt2 hy403).2.2.2.symm
  refine Jo<|Jz<|Jp<|Jf3 R ?_
  have hw207:yC .i64 (v18+1)=v18+1:=wr1 hj207 (Jm2 hc207) hN207
  rw[hw207]
  have hc207:=Jm2 hc207
  cases h
  exact Jz1 λa ha=>⟨k,_,Ja3 _,⟨K236,v18+1,y403,R,(T3 S217 S233 S237).wk R,f238,hn239,by omega,by omega,hk221⟩,(ha.mm R)⟩
  rintro _ w210 ⟨K211,s12,rfl,S212,f213,hn214,rfl⟩
  have h:=yI hK208
  refine Jp<|Je3 R<|Ju<|Ja2 (l:=[.tmp 4]) V250 (Jp2 R R) R ?_
  cases h
  exact⟨(λb=>ren [(5,2)]<|K211 b),aa,ab,(by simp only[hn214]),((hE.stp<|T15 S3 S15 S20 S26 S33 S68 S78 S93 S99 S106 S175 S179 S189 S203 S212).map (ren [(5,2)]) R R),(f213.map (ren [(5,2)]) R R)⟩
  refine JT λh=>Jx R<|Jq<|Je3 R ?_
  have hN135:(p1.length:Int)<=9223372036854775807:=f72.len_le
  refine Ob h λq8 hq137 hK136=>?_
  clear h
  refine Jo3 [6] (λE L w'=>∃κ',∃s9:(List Bool),L=E/\Stp [5] K105 w104 κ' w'/\Oc Ep.bool 4 κ' w' 5 aa ab s9/\x24.length=s9.length/\q8=yD s9) ?_ ?_
  refine Jv<|Jp3 [1,6,7] (λk E L w'=>∃κ' v15,∃s7:(List Bool),L=(15,vi v15)::E/\Stp [5] K105 w104 κ' w'/\Oc Ep.bool 4 κ' w' 5 aa ab s7/\x24.length=s7.length/\0<=v15/\yG ((p1.length:Int)-v15)=k/\cntM (j7 p1 x21) k v15 s7=some q8) ⟨_,_,⟨K105,0,x24,R,Jj3,(f21.stp<|T7 S26 S33 S68 S78 S93 S99 S106),R,(by decide),(by simp),hq137⟩,(KM R)⟩ ?_
  rintro k _ w143 ⟨K144,v15,s7,rfl,S145,f146,hn147,hj135,hJ135,h⟩
  rcases k with _ | k
  have hk149:=h;obtain⟨o135,h⟩:=bT (yD (yE s7):(List Bool)⊕(((List Bool))⊕((List Bool))))
  have hc135:decide (v15<(p1.length:Int))=false:=Jo2 (by omega)
  refine Jq<|Jg3 [2,2,2,2] 2 R<|Jn3 R U178 R R<|Jb 1 R<|Jw2 R hc135<|Jc1<|Jt<|Jt ?_
  cases h
  have h:=hk149
  refine Jb1 ?_
  cases h
  exact Jw1 _ ⟨K144,s7,R,S145.wk R,f146,hn147,R⟩<|KM R
  obtain⟨o135,h,hk149⟩:=BI h;unfold j7 at h
  have hc135:decide (v15<(p1.length:Int))=true:=Jn2 (by omega)
  refine Jq<|Jg3 [2,2,2,2] 2 R<|Jn3 R U178 R R<|Jb 1 R<|Jv2 R hc135<|Js<|Jp<|Jq<|Jv<|Jh3 [2,2,2,2,2,1,2,2,2,2,2,1] 4 R<|Ob h λx109 hx109 h=>Jc3 R f72 hx109 U178 Z4<|Jb3 R I4 ((f72.stp<|T5 S78 S93 S99 S106 S145).gBool hx109)<|Jn 1 R<|Ob h λp114 h hK151=>Jq3 [1,6,7,15,105,106] (λE L w'=>L=(114,.bool p114)::E/\∃κ',Stp [] K144 w143 κ' w') [(7,2),(8,2),(9,2)] [(10,2),(11,1)] tv ?_ ?_
  revert h
  cases ht152:x109
  refine JF λh=>Jn 3 R ?_
  cases h
  exact Jv1 _ tv ⟨R,_,Jj3⟩<|KM R
  refine JT λh=>Jn 3 R ?_
  cases h
  exact Jv1 _ tv ⟨R,_,Jj3⟩<|KM R
  rintro _ w153 _ ⟨rfl,K154,S155⟩
  have h:=hK151
  refine Ob h λx115 hx115 h=>Jf R (Jf2 f146.rdc hx115 U178 Z4 R R hn147 R)<|Ob h λy399 hy399 h=>Jk1 (κ:=K154) (E:=Ep.bool) 5 [] R R R R R R R R Z4 R R R R (f146.stp S155) hy399 λw157 K158 S159 f160=>Tv<|?_
  have hn161:x24.length=y399.length:=hn147.trans (Jt2 hy399).2.2.2.symm
  refine Jo<|Jz<|Jp<|Jf3 R ?_
  have hw135:yC .i64 (v15+1)=v15+1:=wr1 hj135 (Jm2 hc135) hN135
  rw[hw135]
  have hc135:=Jm2 hc135
  cases h
  exact Jz1 λa ha=>⟨k,_,Ja3 _,⟨K158,v15+1,y399,R,(T3 S145 S155 S159).wk R,f160,hn161,by omega,by omega,hk149⟩,(ha.mm R)⟩
  rintro _ w138 ⟨K139,s9,rfl,S140,f141,hn142,rfl⟩
  have h:=yI hK136
  refine Jp<|Je3 R<|Ju<|Jw<|Ja2 (l:=[.tmp 4]) V250 (Jp2 R R) R ?_
  cases h
  exact⟨(λb=>ren [(5,2)]<|K139 b),aa,ab,(by simp only[hn142]),((hE.stp<|T11 S3 S15 S20 S26 S33 S68 S78 S93 S99 S106 S140).map (ren [(5,2)]) R R),(f141.map (ren [(5,2)]) R R)⟩
  refine JT λh=>Jx R<|Je3 R<|Ju<|Jw<|Ja2 (l:=[.tmp 4]) V250 (Jp2 R R) R ?_
  cases h
  exact⟨(λb=>ren [(5,2)]<|K19 b),aa,ab,R,((hE.stp<|T3 S3 S15 S20).map (ren [(5,2)]) R R),(f21.map (ren [(5,2)]) R R)⟩
theorem lN {p0:Sig}{aC aG aF aD}{p1:Machine}{aB aA aE az}{p2:Word}(g1_0:Rd (Rp.sl (Rp.int .i64)) κ w 0 aC aG p1.Next) (g1_1:Rd (Rp.sl (Rp.int .i64)) κ w 0 aF aD p1.Out) (g2_0:Rd (Rp.int .i64) κ w 0 aB aA p2.Stem) (g2_1:Rd (Rp.int .i64) κ w 0 aE az p2.Loop){r:Word}(h:la p0 p1 p2=some r):Ret Tryz.prog 14 [.agg #[vi p0.In,vi p0.Out],.agg #[.slice aC p1.Next.length aG,.slice aF p1.Out.length aD],.agg #[.slice aB p2.Stem.length aA,.slice aE p2.Loop.length az]] w (λv w'=>∃(κ':Col) (ra0:Option Addr) (ru0:Nat) (ra1:Option Addr) (ru1:Nat),v= .agg #[.slice ra0 r.Stem.length ru0,.slice ra1 r.Loop.length ru1]/\Ent κ w κ' w'/\Oc E6 2 κ' w' 2 ra0 ru0 r.Stem/\Oc E6 2 κ' w' 3 ra1 ru1 r.Loop):=by
 unfold la at h
 refine Jk3 κ F14 R N14 R λhE=>Je [1,1,1,1] R<|Js3 (κ:=κ) 2 R λb3 w1 K2 S3 f4=>Tv<|Js3 (κ:=K2) 3 R λb4 w5 K6 S7 f8=>Tv<|Js3 (κ:=K6) 4 R λb5 w9 K10 S11 f12=>Tv<|Jt3 (κ:=K10) 5 R X39 R λb6 w13 K14 S15 f16=>Tv<|Jd<|Jq<|Je [1,1,1,2,2,1,2,1,1,2,2,2,1,2,1,1,2,2,2,2,1,2,2,2] R ?_
 have f17:=f4.stp (T3 S7 S11 S15)
 refine Jb4 tv R (Jc4 (haE f17.cells) I28 Z28 R) ?_
 have f18:=f8.stp (S11.tr S15)
 refine Jb4 tv R (Jc4 (haE f18.cells) I33 Z33 R)<|Ob h λx15 hx15 h=>?_
 have f19:=g1_0.stp (T4 S3 S7 S11 S15)
 have f20:=g1_1.stp (T4 S3 S7 S11 S15)
 refine Jr3 R C17 (mv (κ:=Mk K14) (p0:=p0) (p1:=p1) (Ji3 f19) (Ji3 f20) hx15) ?_
 rintro _ w21 ⟨k22,rfl,e23⟩
 obtain⟨K24,S25,m26⟩:=Ji e23 6 R
 refine Tv<|Jn 2 R<|Ob h λp23 h hK28=>Jq3 [3,4,5,6] (λE L w'=>L=(23,.bool p23)::E/\∃κ',Stp [] K24 w21 κ' w') [(5,1),(6,2),(7,1),(8,1),(9,2),(10,2)] [(11,2),(12,1),(13,2),(14,1),(15,1),(16,2),(17,2),(18,2),(19,2),(20,1),(21,2),(22,2),(23,2)] tv ?_ ?_
 revert h
 cases ht29:(!x15)
 refine JF λh=>Jb4 tv R (Jc4 (haE (f17.stp S25).cells) I28 Z28 R)<|Jd3 R U39 R Z37<|Jb3 R I37 ((f12.stp<|S15.tr S25).ld 0 R R)<|Ob h λx21 hx21 h=>Jr3 R C54 (mc (κ:=Mk K24) (p0:=p0) (Ji3<|g2_0.stp<|T5 S3 S7 S11 S15 S25) hx21) ?_
 rintro _ w33 ⟨k34,rfl,e35⟩
 obtain⟨K36,S37,m38⟩:=Ji e35 8 R
 refine Tv<|Jn 2 R ?_
 cases h
 exact Jv1 _ tv ⟨R,_,S37.wk R⟩<|KM R
 refine JT λh=>Jz3 R<|Jn 1 R<|Jz3 R<|Jz3 R<|Jn 2 R ?_
 cases h
 exact Jv1 _ tv ⟨R,_,Jj3⟩<|KM R
 rintro _ w40 _ ⟨rfl,K41,S42⟩
 have h:=hK28
 refine Jn 1 R<|Ob h λp30 h hK43=>Jq3 [3,4,5,6] (λE L w'=>L=(30,.bool p30)::E/\∃κ',Stp [] K41 w40 κ' w') [(12,1),(13,2),(14,1),(15,1),(16,2),(17,2)] [(18,2),(19,2),(20,1),(21,2),(22,2),(23,2)] tv ?_ ?_
 revert h
 cases ht44:p23
 refine JF λh=>Jb4 tv R (Jc4 (haE (f17.stp<|S25.tr S42).cells) I28 Z28 R)<|Jd3 R U39 R Z37<|Jb3 R I37 ((f12.stp<|T3 S15 S25 S42).ld 1 R R)<|Ob h λx28 hx28 h=>Jr3 R C54 (mc (κ:=Mk K41) (p0:=p0) (Ji3<|g2_1.stp<|T6 S3 S7 S11 S15 S25 S42) hx28) ?_
 rintro _ w48 ⟨k49,rfl,e50⟩
 obtain⟨K51,S52,m53⟩:=Ji e50 8 R
 refine Tv<|Jn 2 R ?_
 cases h
 exact Jv1 _ tv ⟨R,_,S52.wk R⟩<|KM R
 refine JT λh=>Jz3 R<|Jn 1 R<|Jz3 R<|Jz3 R<|Jn 2 R ?_
 cases h
 exact Jv1 _ tv ⟨R,_,Jj3⟩<|KM R
 rintro _ w55 _ ⟨rfl,K56,S57⟩
 have h:=hK43
 refine Jn 1 R<|Ob h λp36 h hK58=>Jq3 [3,4,5,6] (λE L w'=>L=(36,.bool p36)::E/\∃κ',Stp [] K56 w55 κ' w') [(19,2),(20,1),(21,2),(22,2),(23,2)] [] tv ?_ ?_
 revert h
 cases ht59:p30
 refine JF λh=>Jd3 R U39 R Z37<|Jb3 R I37 ((f12.stp<|T4 S15 S25 S42 S57).ld 1 R R)<|Jn3 R U37 R R<|Jn 2 R ?_
 cases h
 exact Jv1 _ tv ⟨R,_,Jj3⟩<|KM R
 refine JT λh=>Jn 1 R<|Jz3 R<|Jn 3 R ?_
 cases h
 exact Jv1 _ tv ⟨R,_,Jj3⟩<|KM R
 rintro _ w61 _ ⟨rfl,K62,S63⟩
 have h:=hK58
 refine Jd ?_
 revert h
 cases ht64:p36
 refine JF λh=>Jy R<|Js<|Jp<|Je [1,2] R<|Jx3 (κ:=K62) (E:=E6) 8 R Y37 bG R λaI aH w70 K71 S72 f73=>Tv<|Jb 1 R<|Je [1,2,1,1,2] R ?_
 have f74:=f18.stp (T5 S25 S42 S57 S63 S72)
 refine Jb4 tv R (Jc4 (haE f74.cells) I33 Z33 R)<|Jd3 R U39 R Z37 ?_
 have f75:=f12.stp (T6 S15 S25 S42 S57 S63 S72)
 refine Jb3 R I37 (f75.ld 0 R R)<|Ob h λx42 hx42 h=>?_
 have f76:=f19.stp (T5 S25 S42 S57 S63 S72)
 have f77:=f20.stp (T5 S25 S42 S57 S63 S72)
 have f78:=g2_0.stp (T9 S3 S7 S11 S15 S25 S42 S57 S63 S72)
 refine Jr3 R C55 (mG (κ:=Mk K71) (p0:=p1) (Ji3 f76) (Ji3 f77) (Ji3 f78) hx42) ?_
 rintro _ w79 ⟨k80,rfl,e81⟩
 obtain⟨K82,S83,m84⟩:=Ji e81 9 R
 refine Tv<|Jb 1 R<|Jq<|Ob h λq2 hq88 hK87=>?_
 clear h
 refine Jo3 [3,4,5,6] (λE L w'=>∃κ',∃s3:(List Int)×Int,∃aq av,L=(7,.slice aq s3.1.length av)::(8,vi s3.2)::E/\Stp [8] K82 w79 κ' w'/\Oc E6 2 κ' w' 8 aq av s3.1/\q2=yD s3) ?_ ?_
 refine Jv<|Jp3 [3,4,5,6] (λk E L w'=>∃κ',∃s1:(List Int)×Int,∃am ak,L=(7,.slice am s1.1.length ak)::(8,vi s1.2)::E/\Stp [8] K82 w79 κ' w'/\Oc E6 2 κ' w' 8 am ak s1.1/\ca (gO p1 p2) k s1=some q2) ⟨_,_,⟨K82,((([]:List Int):(List Int)),x42),aI,aH,R,Jj3,(f73.stp S83),hq88⟩,(KM R)⟩ ?_
 rintro k _ w93 ⟨K94,s1,am,ak,rfl,S95,f96,h⟩
 rcases k with _ | k
 cases h
 obtain⟨o86,h,hk98⟩:=BI h;unfold gO at h
 refine Jq<|Jg3 [2,2,1,2] 2 R<|Ob h λx45 hx45 h=>Jr3 R C56 (nF (κ:=Mk K94) (Ji3 f96.rdc) hx45) ?_
 rintro _ w99 ⟨k100,rfl,e101⟩
 obtain⟨K102,S103,m104⟩:=Ji e101 11 R
 refine Tv<|Jb 1 R ?_
 revert h
 cases ht106:decide (x45<0)
 refine JF λh=>Jy R<|Jc1<|Jt<|Jt ?_
 cases h
 have h:=hk98
 refine Jb1 ?_
 cases h
 exact Jw1 _ ⟨K102,(s1.1,s1.2),am,ak,R,(S95.tr S103).wk R,(f96.stp S103),R⟩<|KM R
 have S001:=(T3 S83 S95 S103)
 refine JT λh=>Jx R<|Js<|Jp<|Jv<|Jg3 [2,2,1,1,2] 2 R<|Jw3 (κ:=K102) (E:=E6) 13 [] (parts:=[(0,.tmp 48)]) (cells:=[vi s1.2]) (xs:=([s1.2]:List Int)) R Y37 bG R ⟨[vi s1.2],[],Zl K102 w99 [],Zl K102 w99 [],R,Zl.sp (l1:=[]) (l2:=[]) R,Zl.sr (l1:=[]) (l2:=[]),R,R⟩ λaL aN w107 K108 S109 f110=>Tv<|Ob h λx50 hx50 h=>Jy3 (κ:=K108) (E:=E6) 8 [] R Y37 bG R (f96.stp<|S103.tr S109) (Sl.srcP (bP _) f110.rdc) bI hx50 R λaK aJ w112 K113 S114 f115=>Tv<|Jb 1 R<|Ja [1,2,2,1,1,2] R<|Jb4 tv R (Jc4 (haE (f74.stp<|T3 S001 S109 S114).cells) I33 Z33 R)<|Jn 1 R<|Jd3 R U39 R Z37<|Jb3 R I37 ((f75.stp<|T3 S001 S109 S114).ld 1 R R)<|Ob h λx55 hx55 h=>Jr3 R C55 (mG (κ:=Mk K113) (p0:=p1) (Ji3<|f76.stp<|T3 S001 S109 S114) (Ji3<|f77.stp<|T3 S001 S109 S114) (Ji3<|g2_1.stp<|T14 S3 S7 S11 S15 S25 S42 S57 S63 S72 S83 S95 S103 S109 S114) hx55) ?_
 rintro _ w121 ⟨k122,rfl,e123⟩
 obtain⟨K124,S125,m126⟩:=Ji e123 14 R
 refine Tv<|Jc 1 R<|Jz ?_
 cases h
 exact Jz1 λa ha=>⟨k,_,Ja3 _,⟨K124,(x50,x55),aK,aJ,R,(T5 S95 S103 S109 S114 S125).wk R,(f115.stp S125),hk98⟩,(ha.mm R)⟩
 rintro _ w89 ⟨K90,s3,aq,av,rfl,S91,f92,rfl⟩
 have h:=yI hK87
 refine Jp<|Jg3 [2,2,1,2] 2 R<|Ob h λx58 hx58 h=>Jr3 R C56 (nF (κ:=Mk K90) (Ji3 f92.rdc) hx58) ?_
 rintro _ w130 ⟨k131,rfl,e132⟩
 obtain⟨K133,S134,m135⟩:=Ji e132 11 R
 refine Tv<|Jb 1 R<|Je [1,1,2,1,1,2,1,1] R ?_
 have f137:=f17.stp (T8 S25 S42 S57 S63 S72 S83 S91 S134)
 refine Jb4 tv R (Jc4 (haE f137.cells) I28 Z28 R) ?_
 have f138:=f74.stp (T3 S83 S91 S134)
 refine Jb4 tv R (Jc4 (haE f138.cells) I33 Z33 R)<|Jd3 R U39 R Z37 ?_
 have f139:=f75.stp (T3 S83 S91 S134)
 refine Jb3 R I37 (f139.ld 0 R R)<|Ob h λx63 hx63 h=>?_
 have f140:=f76.stp (T3 S83 S91 S134)
 have f141:=f77.stp (T3 S83 S91 S134)
 refine Jr3 R C57 (lO (κ:=Mk K133) (p0:=p0) (p1:=p1) (Ji3 f140) (Ji3 f141) (Ji3<|f78.stp<|T3 S83 S91 S134) hx63) ?_
 rintro _ w143 ⟨k144,ar,au,rfl,e145,f146⟩
 obtain⟨K147,S148,m149⟩:=Ji e145 13 R
 refine Tv<|Jf R (bK (parts:=[(0,.tmp 63)]) (cells:=[.slice ar x63.length au,.slice none 0 0]) R R (by kernel_rfl))<|Jt3 (κ:=K147) 16 R X39 R λb10 w152 K153 S154 f155=>Tv<|Jv3 (κ:=K153) 16 (vc:=[.slice ar x63.length au,.slice none 0 0]) R Z39 R f155 R λw156 S157 f158=>Tv<|Jd<|Jq<|Je3 R ?_
 have hN159:(s3.1.length:Int)<=9223372036854775807:=f92.len_le
 refine Ob h λq5 hq161 hK160=>?_
 clear h
 refine Jo3 [6,10] (λE L w'=>∃κ',∃s6:(List Int)×(List Int),∃ai ah af ae,L=E/\Stp [15,16,17] K153 w156 κ' w'/\Oc E6 2 κ' w' 15 ai ah s6.1/\Oc E6 2 κ' w' 17 af ae s6.2/\Bc κ' w' 16 b10 39 [.slice ai s6.1.length ah,.slice af s6.2.length ae]/\q5=yD s6) ?_ ?_
 refine Jv<|Jp3 [3,4,5,6,7,9,10] (λk E L w'=>∃κ' v11,∃s4:(List Int)×(List Int),∃ac ab aa ad,L=(11,vi v11)::E/\Stp [15,16,17] K153 w156 κ' w'/\Oc E6 2 κ' w' 15 ac ab s4.1/\Oc E6 2 κ' w' 17 aa ad s4.2/\Bc κ' w' 16 b10 39 [.slice ac s4.1.length ab,.slice aa s4.2.length ad]/\0<=v11/\yG ((s3.1.length:Int)-v11)=k/\cntM (fQ p0 p1 p2 s3 x58) k v11 s4=some q5) ⟨_,_,⟨K153,0,(x63,(([]:List Int):(List Int))),ar,au,none,0,R,Jj3,((f146.mx (bL _) m149 R (R:13+2=15)).stp (S154.tr S157)),Ow.nil,f158,(by decide),(by simp),hq161⟩,(KM R)⟩ ?_
 rintro k _ w168 ⟨K169,v11,s4,ac,ab,aa,ad,rfl,S170,f171,f172,f173,hj159,hJ159,h⟩
 rcases k with _ | k
 have hk175:=h;obtain⟨o159,h⟩:=bT (yD (yE s4):Word⊕(((List Int)×(List Int))⊕((List Int)×(List Int))))
 have hc159:decide (v11<(s3.1.length:Int))=false:=Jo2 (by omega)
 refine Jq<|Jg3 [2,2,2,2] 2 R<|Jn3 R U37 R R<|Jb 1 R<|Jw2 R hc159<|Jc1<|Jt<|Jt ?_
 cases h
 have h:=hk175
 refine Jb1 ?_
 cases h
 exact Jw1 _ ⟨K169,(s4.1,s4.2),ac,ab,aa,ad,R,S170.wk R,f171,f172,f173,R⟩<|KM R
 obtain⟨o159,h,hk175⟩:=BI h;unfold fQ at h
 have hc159:decide (v11<(s3.1.length:Int))=true:=Jn2 (by omega)
 have S002:=(T4 S148 S154 S157 S170)
 refine Jq<|Jg3 [2,2,2,2] 2 R<|Jn3 R U37 R R<|Jb 1 R<|Jv2 R hc159<|Js<|Jp<|Jq<|Jv<|Jq<|Js1 (κ:=K169) [0,2,3,4,8] none [(2,2),(3,2),(4,2),(6,2),(0,0),(1,0),(5,0),(7,0),(8,1),(9,2)] [] (by kernel_rfl) (by kernel_rfl) λw177 S176=>Jn 2 R<|Ob h λx75 hx75 h=>Jc3 R f92.rdc hx75 U37 Z2<|Jd3 R U39 R Z37<|Jg R (Jc4 (haC (f137.stp<|S002.tr S176).cells R) I28 Z28 R)<|Jg R (Jc4 (haC (f138.stp<|S002.tr S176).cells R) I33 Z33 R)<|Jg R (Jc2 I2 R R<|hvC ((f92.stp<|T6 S134 S148 S154 S157 S170 S176).rdc.gInt hx75) R)<|Jg R (Jc2 I37 R R<|hvC ((f139.stp<|S002.tr S176).ld 1 R R) R)<|Ob h λx79 hx79 h=>Jr3 R C57 (lO (κ:=Mk K169) (p0:=p0) (p1:=p1) (Ji3<|f140.stp<|S002.tr S176) (Ji3<|f141.stp<|S002.tr S176) (Ji3<|g2_1.stp<|S3.tr<|S7.tr<|S11.tr<|S15.tr<|S25.tr<|S42.tr<|S57.tr<|S63.tr<|S72.tr<|S83.tr<|S91.tr<|S134.tr<|S148.tr<|S154.tr<|S157.tr<|S170.tr S176) hx79) ?_
 rintro _ w185 ⟨k186,aM,aO,rfl,e187,f188⟩
 obtain⟨K189,S190,m191⟩:=Ji e187 18 R
 refine⟨(S190.cl R),?_⟩
 have f193:=f188.mx (bL _) m191 R (R:18+2=20)
 refine Jn 1 R<|Jt1<|Jd<|Je3 R<|Ob h λq7 h hK194=>Jo3 [3,4,5,6,7,9,10,11] (λE L w'=>∃κ' an aj ao al,L=E/\Stp [15,16,17] K189 w185 κ' w'/\Oc E6 2 κ' w' 15 an aj q7.1/\Oc E6 2 κ' w' 17 ao al q7.2/\Bc κ' w' 16 b10 39 [.slice an q7.1.length aj,.slice ao q7.2.length al]) ?_ ?_
 revert h
 cases ht201:decide (v11<x58)
 refine JF λh=>Jy R<|Ja [2,1,2,1,2,1] R<|Jd3 R U39 R Z37 ?_
 have f214:=f173.stp (S176.tr S190)
 refine Jb3 R I37 (f214.ld 1 R R)<|Jn 1 R<|Ob h λx91 hx91 h=>Jy3 (κ:=K189) (E:=E6) 17 [] R Y37 bG R (f172.stp<|S176.tr S190) (Sl.srcP (bP _) f193.rdc) bI hx91 R λax ap w216 K217 S218 f219=>Tv<|Jd3 R U39 R Z37<|Ju3 (κ:=K217) 16 (off:=1) (vc:=[.slice ax x91.length ap]) (cs':=[.slice ac s4.1.length ab,.slice ax x91.length ap]) R Z37 R (f214.stp S218) R λw221 S222 f223=>Tv<|Jo ?_
 cases h
 exact Jw1 _ ⟨K217,ac,ab,ax,ap,R,(S218.tr S222).wk R,(f171.stp<|T4 S176 S190 S218 S222),(f219.stp S222),f223⟩<|KM R
 refine JT λh=>Jx R<|Ja [2,1,2,1,2,1] R<|Jd3 R U39 R Z37 ?_
 have f202:=f173.stp (S176.tr S190)
 refine Jb3 R I37 (f202.ld 0 R R)<|Jn 1 R<|Ob h λx86 hx86 h=>Jy3 (κ:=K189) (E:=E6) 15 [] R Y37 bG R (f171.stp<|S176.tr S190) (Sl.srcP (bP _) f193.rdc) bI hx86 R λay aw w204 K205 S206 f207=>Tv<|Jd3 R U39 R Z37<|Ju3 (κ:=K205) 16 (off:=0) (vc:=[.slice ay x86.length aw]) (cs':=[.slice ay x86.length aw,.slice aa s4.2.length ad]) R Z37 R (f202.stp S206) R λw209 S210 f211=>Tv<|Jo ?_
 cases h
 exact Jw1 _ ⟨K205,ay,aw,aa,ad,R,(S206.tr S210).wk R,(f207.stp S210),(f172.stp<|T4 S176 S190 S206 S210),f211⟩<|KM R
 rintro _ w195 ⟨K196,an,aj,ao,al,rfl,S197,f198,f199,f200⟩
 have h:=hK194
 refine Jz<|Jp<|Jf3 R ?_
 have hw159:yC .i64 (v11+1)=v11+1:=wr1 hj159 (Jm2 hc159) hN159
 rw[hw159]
 have hc159:=Jm2 hc159
 cases h
 exact Jz1 λa ha=>⟨k,_,Ja3 _,⟨K196,v11+1,(q7.1,q7.2),an,aj,ao,al,R,(T4 S170 S176 S190 S197).wk R,f198,f199,f200,by omega,by omega,hk175⟩,(ha.mm R)⟩
 rintro _ w162 ⟨K163,s6,ai,ah,af,ae,rfl,S164,f165,f166,f167,rfl⟩
 have h:=yI hK160
 refine Jp<|Jq<|Je [2,1,2,2,2,2,1,2,2,2] R<|Jd3 R U39 R Z37<|Jb3 R I37 (f167.ld 0 R R)<|Jn3 R U37 R R<|Jn 2 R<|Ob h λp102 h hK226=>Jq3 [6,10] (λE L w'=>L=(102,.bool p102)::E/\∃κ',Stp [] K163 w162 κ' w') [(5,2),(6,1),(7,2),(8,2),(9,2)] [] tv ?_ ?_
 revert h
 cases ht227:decide (600<(s6.1.length:Int))
 refine JF λh=>Jd3 R U39 R Z37<|Jb3 R I37 (f167.ld 1 R R)<|Jn3 R U37 R R<|Jn 2 R ?_
 cases h
 exact Jv1 _ tv ⟨R,_,Jj3⟩<|KM R
 refine JT λh=>Jn 1 R<|Jz3 R<|Jn 3 R ?_
 cases h
 exact Jv1 _ tv ⟨R,_,Jj3⟩<|KM R
 rintro _ w228 _ ⟨rfl,K229,S230⟩
 have h:=hK226
 refine Jd ?_
 revert h
 cases ht231:p102
 refine JF λh=>Jy R<|Js<|Jp<|Je [1,1] R<|Jb4 tv R (Jc4 (haE (f167.stp S230).cells) I39 Z39 R)<|Jv3 (κ:=K229) 5 (vc:=[.slice ai s6.1.length ah,.slice af s6.2.length ae]) R Z39 R (f16.stp<|T13 S25 S42 S57 S63 S72 S83 S91 S134 S148 S154 S157 S164 S230) R λw239 S240 f241=>Tv<|Jd<|Ju<|Ja2 (l:=[.cell 6 39]) V14 (bM R f241 I39 Z39 R R) R ?_
 cases h
 exact⟨(λb=>ren [(15,2),(17,3)]<|K229 b),ai,ah,af,ae,R,((hE.stp<|S3.tr<|S7.tr<|S11.tr<|S15.tr<|S25.tr<|S42.tr<|S57.tr<|S63.tr<|S72.tr<|S83.tr<|S91.tr<|S134.tr<|S148.tr<|S154.tr<|S157.tr<|S164.tr<|S230.tr S240).map (ren [(15,2),(17,3)]) R R),((f165.stp<|S230.tr S240).map (ren [(15,2),(17,3)]) R R),((f166.stp<|S230.tr S240).map (ren [(15,2),(17,3)]) R R)⟩
 refine JT λh=>Jx R<|Je [2,1] R<|Jf R (bK (parts:=[]) (cells:=[.slice none 0 0,.slice none 0 0]) R R (by kernel_rfl))<|Jv3 (κ:=K229) 5 (vc:=[.slice none 0 0,.slice none 0 0]) R Z39 R (f16.stp<|T13 S25 S42 S57 S63 S72 S83 S91 S134 S148 S154 S157 S164 S230) R λw233 S234 f235=>Tv<|Jd<|Ju<|Jw<|Ja2 (l:=[.cell 6 39]) V14 (bM R f235 I39 Z39 R R) R ?_
 cases h
 exact⟨K229,none,0,none,0,R,(hE.stp<|S3.tr<|S7.tr<|S11.tr<|S15.tr<|S25.tr<|S42.tr<|S57.tr<|S63.tr<|S72.tr<|S83.tr<|S91.tr<|S134.tr<|S148.tr<|S154.tr<|S157.tr<|S164.tr<|S230.tr S234),Ow.nil,Ow.nil⟩
 refine JT λh=>Jx R<|Je [2,1] R<|Jf R (bK (parts:=[]) (cells:=[.slice none 0 0,.slice none 0 0]) R R (by kernel_rfl))<|Jv3 (κ:=K62) 5 (vc:=[.slice none 0 0,.slice none 0 0]) R Z39 R (f16.stp<|T4 S25 S42 S57 S63) R λw66 S67 f68=>Tv<|Jd<|Ju<|Jw<|Ja2 (l:=[.cell 6 39]) V14 (bM R f68 I39 Z39 R R) R ?_
 cases h
 exact⟨K62,none,0,none,0,R,(hE.stp<|T9 S3 S7 S11 S15 S25 S42 S57 S63 S67),Ow.nil,Ow.nil⟩
theorem oG {p0:Sig}{ab ac aa ad}{p1:Word}(g1_0:Rd (Rp.int .i64) κ w 0 ab ac p1.Stem) (g1_1:Rd (Rp.int .i64) κ w 0 aa ad p1.Loop){r:Bool}(h:iU p0 p1=some r):Ret Tryz.prog 76 [.agg #[vi p0.In,vi p0.Out],.agg #[.slice ab p1.Stem.length ac,.slice aa p1.Loop.length ad]] w (Pvb κ w r):=by
 unfold iU at h
 refine Jk3 κ F76 R N76 R λhE=>Je [1,1,2] R<|Js3 (κ:=κ) 2 R λb2 w1 K2 S3 f4=>Tv<|Js3 (κ:=K2) 3 R λb3 w5 K6 S7 f8=>Tv<|Jb 1 R<|Jq<|Js1 (κ:=K6) [2,3] none [(0,0),(1,1),(2,2),(3,0),(4,0),(5,1),(6,1),(7,2),(8,2)] [] (by kernel_rfl) (by kernel_rfl) λw10 S9=>?_
 have f11:=f4.stp (S7.tr S9)
 refine Jg R (Jc4 (haC f11.cells R) I28 Z28 R)<|Ob h λx6 hx6 h=>Jr3 R C58 (gz (κ:=Mk K6) (p0:=p0) hx6) ?_
 rintro _ w12 ⟨k13,rfl,e14⟩
 obtain⟨K15,S16,m17⟩:=Ji e14 4 R
 refine⟨(S16.cl R),Jn 1 R<|Ob h λp12 h hK19=>Jq3 [4] (λE L w'=>L=(12,.bool p12)::E/\∃κ',Stp [] K15 w12 κ' w') [(3,0),(4,0),(5,1),(6,1),(7,2)] [(8,2)] (S16.cl R) ?_ ?_⟩
 revert h
 cases ht20:x6
 refine JF λh=>Ja4 R<|Ja4 R<|Jz3 R<|Jz3 R<|Jn 1 R ?_
 cases h
 exact Jv1 _ (S16.cl R) ⟨R,_,Jj3⟩<|KM R
 refine JT λh=>Jg R (Jc4 (haC (f8.stp S9).cells R) I39 Z39 R)<|Jg R (Jc4 (haC f11.cells R) I28 Z28 R)<|Ob h λx10 hx10 h=>Jr3 R C120 (eu (κ:=Mk K15) (p0:=p0) hx10) ?_
 rintro _ w22 ⟨k23,rfl,e24⟩
 obtain⟨K25,S26,m27⟩:=Ji e24 6 R
 have S001:=(T5 S3 S7 S9 S16 S26)
 refine⟨((S16.tr S26).cl R),Ob h λx11 hx11 h=>Jr3 R C151 (rf (κ:=Mk K25) (p0:=p1) (Ji3<|g1_0.stp S001) (Ji3<|g1_1.stp S001) hx11) ?_⟩
 rintro _ w31 ⟨k32,rfl,e33⟩
 obtain⟨K34,S35,m36⟩:=Ji e33 8 R
 refine⟨((T3 S16 S26 S35).cl R),Jn 1 R ?_⟩
 cases h
 exact Jv1 _ ((T3 S16 S26 S35).cl R) ⟨R,_,(S26.tr S35).wk R⟩<|KM R
 rintro _ w38 _ ⟨rfl,K39,S40⟩
 have h:=hK19
 refine Jn 1 R<|Jt1<|Jd<|Ju<|Ja2 (l:=[.tmp 4]) V76 (Jp2 R R) R ?_
 cases h
 exact⟨K39,R,(hE.stp<|T5 S3 S7 S9 S16 S40)⟩
end Go.Proofs.YtleekpaohfpooaaGreat
