/- The walks, part 6. By program. -/
import Derived.Test.YtleekpaohfpooaaGreatFns2KE
import Derived.Test.YtleekpaohfpooaaGreatFns3KE
set_option linter.unusedVariables false
set_option linter.unusedSimpArgs false
open Go.IntKind renaming wrap → yC
open Sum renaming inr → yD
namespace Go.Proofs.YtleekpaohfpooaaGreat
open Go Go.Wk Go.Proofs
set_option maxRecDepth 100000
set_option maxHeartbeats 1000000
variable {w:World}{κ:Col}
theorem qG {af ae}{p0:dice}{b0}(g0_0:Rd (Rp.int .u8) κ w 0 af ae p0.b) (gb0:Bc κ w 2 b0 65 [.slice af p0.b.length ae,vi p0.i,.int .u64 p0.h]){r:Clause×Int×Int}(h:j0 p0=some r):Ret Tryz.prog 40 [.pointer (some ⟨b0,0,none⟩)] w (λv w'=>∃(κ':Col) (ra0:Option Addr) (ru0:Nat) (ra1:Option Addr) (ru1:Nat),v= .agg #[vi r.1.Kind,.slice ra0 r.1.A.length ru0,.slice ra1 r.1.B.length ru1]/\Ent κ w κ' w'/\Oc E6 2 κ' w' 3 ra0 ru0 r.1.A/\Oc E6 2 κ' w' 4 ra1 ru1 r.1.B/\Bc κ' w' 2 b0 65 [.slice af p0.b.length ae,vi r.2.1,.int .u64 r.2.2]):=by
 unfold j0 at h
 refine Jk3 κ F40 R N40 R λhE=>Je [1] R<|Jt3 (κ:=κ) 3 R X67 R λb2 w1 K2 S3 f4=>Tv<|Jd<|Jg3 [2,1,2,2,1,2,1,1] 1 R<|Ob h λx5 hx5 h=>?_
 have f5:=g0_0.stp S3
 refine Jr3 R C25 (dd (κ:=λb=>mp [(2,2)] 0<|K2 b) (p0:=p0) (Jl2 f5 (mp [(2,2)] 0) R R) ((gb0.stp S3).map (mp [(2,2)] 0) R R) hx5) ?_
 rintro _ w7 ⟨k8,rfl,e9,f10⟩
 obtain⟨K11,S12,m13⟩:=Ji e9 4 R
 refine Tv<|Jn 2 R<|Ob h λx8 hx8 h=>?_
 have f16:=f5.stp S12
 refine Jr3 R C102 (p5 (κ:=λb=>mp [(6,2)] 0<|K11 b) (p0:=(⟨p0.b,x5.2.1,x5.2.2⟩:dice)) (Jl2 f16 (mp [(6,2)] 0) R R) ((f10.mx m13 R (R:4+2=6)).map (mp [(6,2)] 0) R R) hx8) ?_
 rintro _ w17 ⟨k18,aa,ab,rfl,e19,f20,f21⟩
 obtain⟨K22,S23,m24⟩:=Ji e19 7 R
 refine Tv<|?_
 have f27:=f21.mx m24 R (R:7+2=9)
 refine Jf R (bK (parts:=[(0,.tmp 6),(1,.tmp 8)]) (cells:=[vi (IntKind.i64.wrap (1+x5.1)),.slice aa x8.1.length ab,.slice none 0 0]) R R (by kernel_rfl))<|Jt3 (κ:=K22) 11 R X67 R λb3 w28 K29 S30 f31=>Tv<|Jv3 (κ:=K29) 11 (vc:=[vi (IntKind.i64.wrap (1+x5.1)),.slice aa x8.1.length ab,.slice none 0 0]) R Z67 R f31 R λw32 S33 f34=>Tv<|Jd<|Jq<|Je [2,1,2,2,2,1,2,2,2,2,1,2,2] R<|Jd3 R U67 R Z2<|Jb3 R I2 (f34.ld 0 R R)<|Jn 2 R<|Ob h λp17 h hK35=>Jq3 [0,2,3] (λE L w'=>L=(17,.bool p17)::E/\∃κ',Stp [] K29 w32 κ' w') [(4,2),(5,1),(6,2),(7,2)] [(8,2),(9,2),(10,1),(11,2),(12,2)] tv ?_ ?_
 revert h
 cases ht36:((IntKind.i64.wrap (1+x5.1))==2)
 refine JF λh=>Jd3 R U67 R Z2<|Jb3 R I2 (f34.ld 0 R R)<|Jn 2 R ?_
 cases h
 exact Jv1 _ tv ⟨R,_,Jj3⟩<|KM R
 refine JT λh=>Jn 1 R<|Jz3 R<|Jn 2 R ?_
 cases h
 exact Jv1 _ tv ⟨R,_,Jj3⟩<|KM R
 rintro _ w37 _ ⟨rfl,K38,S39⟩
 have h:=hK35
 refine Jn 1 R<|Ob h λp22 h hK40=>Jq3 [0,2,3] (λE L w'=>L=(22,.bool p22)::E/\∃κ',Stp [] K38 w37 κ' w') [(9,2),(10,1),(11,2),(12,2)] [] tv ?_ ?_
 revert h
 cases ht41:p17
 refine JF λh=>Jd3 R U67 R Z2<|Jb3 R I2 ((f34.stp S39).ld 0 R R)<|Jn 2 R ?_
 cases h
 exact Jv1 _ tv ⟨R,_,Jj3⟩<|KM R
 refine JT λh=>Jn 1 R<|Jz3 R<|Jn 2 R ?_
 cases h
 exact Jv1 _ tv ⟨R,_,Jj3⟩<|KM R
 rintro _ w43 _ ⟨rfl,K44,S45⟩
 have h:=hK40
 refine Jd<|Ob h λq1 h hK46=>Jo3 [0,2,3] (λE L w'=>∃κ' ac ad,L=E/\Stp [9,11,14,15] K44 w43 κ' w'/\Oc E6 2 κ' w' 12 ac ad q1.2.2/\Bc κ' w' 9 b0 65 [.slice af p0.b.length ae,vi q1.1,.int .u64 q1.2.1]/\Bc κ' w' 11 b3 67 [vi (IntKind.i64.wrap (1+x5.1)),.slice aa x8.1.length ab,.slice ac q1.2.2.length ad]) ?_ ?_
 revert h
 cases ht53:p22
 refine JF λh=>Jy R<|Js ?_
 cases h
 exact Jw1 _ ⟨K44,none,0,R,Jj3,Ow.nil,(f27.stp<|T4 S30 S33 S39 S45),(f34.stp<|S39.tr S45)⟩<|KM R
 refine JT λh=>Jx R<|Jh3 [2,1,2,1] 1 R<|Ob h λx24 hx24 h=>Jr3 R C102 (p5 (κ:=λb=>mp [(9,2)] 0<|K44 b) (p0:=(⟨p0.b,x8.2.1,x8.2.2⟩:dice)) (Jl2 (f16.stp<|T5 S23 S30 S33 S39 S45) (mp [(9,2)] 0) R R) ((f27.stp<|T4 S30 S33 S39 S45).map (mp [(9,2)] 0) R R) hx24) ?_
 rintro _ w56 ⟨k57,ah,ai,rfl,e58,f59,f60⟩
 obtain⟨K61,S62,m63⟩:=Ji e58 12 R
 refine Tv<|Jd3 R U67 R Z37<|Ju3 (κ:=K61) 11 (off:=2) (vc:=[.slice ah x24.1.length ai]) (cs':=[vi (IntKind.i64.wrap (1+x5.1)),.slice aa x8.1.length ab,.slice ah x24.1.length ai]) R Z37 R (f34.stp<|T3 S39 S45 S62) R λw68 S69 f70=>Tv<|Jo ?_
 cases h
 exact Jw1 _ ⟨(λb=>ren [(15,12),(14,9)]<|K61 b),ah,ai,R,(Jy2 ((S62.tr S69).wk R) [(15,12),(14,9)] R),(((f59.mx (bL _) m63 R (R:12+3=15)).stp S69).map (ren [(15,12),(14,9)]) R R),(((f60.mx m63 R (R:12+2=14)).stp S69).map (ren [(15,12),(14,9)]) R R),(f70.map (ren [(15,12),(14,9)]) R R)⟩<|KM R
 rintro _ w47 ⟨K48,ac,ad,rfl,S49,f50,f51,f52⟩
 have h:=hK46
 refine Jp<|Je [1,1] R<|Jb4 tv R (Jc4 (haE f52.cells) I67 Z67 R)<|Jv3 (κ:=K48) 3 (vc:=[vi (IntKind.i64.wrap (1+x5.1)),.slice aa x8.1.length ab,.slice ac q1.2.2.length ad]) R Z67 R (f4.stp<|T7 S12 S23 S30 S33 S39 S45 S49) R λw76 S77 f78=>Tv<|Jd<|Ju<|Ja2 (l:=[.cell 2 67]) V40 (bM R f78 I67 Z67 R R) R ?_
 cases h
 exact⟨(λb=>ren [(10,3),(12,4),(9,2)]<|K48 b),aa,ab,ac,ad,R,((hE.stp<|T9 S3 S12 S23 S30 S33 S39 S45 S49 S77).map (ren [(10,3),(12,4),(9,2)]) R R),(((f20.mx (bL _) m24 R (R:7+3=10)).stp (T6 S30 S33 S39 S45 S49 S77)).map (ren [(10,3),(12,4),(9,2)]) R R),((f50.stp S77).map (ren [(10,3),(12,4),(9,2)]) R R),((f51.stp S77).map (ren [(10,3),(12,4),(9,2)]) R R)⟩
theorem qu {ac ab aa af ad ae}{p0:Parity}(g0_0_0:Rd (Rp.int .i64) κ w 0 ac ab p0.Arena.Owner) (g0_0_1:Rd (Rp.sl (Rp.int .i64)) κ w 0 aa af p0.Arena.Next) (g0_1:Rd (Rp.int .i64) κ w 0 ad ae p0.Prio){r:Bool}(h:j9 p0=some r):Ret Tryz.prog 116 [.agg #[.slice ac p0.Arena.Owner.length ab,.slice aa p0.Arena.Next.length af,.slice ad p0.Prio.length ae]] w (Pvb κ w r):=by
 unfold j9 at h
 refine Jk3 κ F116 R N116 R λhE=>Je [1,2] R<|Js3 (κ:=κ) 2 R λb1 w1 K2 S3 f4=>Tv<|Jb 1 R<|Jq<|Je [2,1,1,2,2,2,1,2,2,2,1,2,2,2] R<|Jd3 R U79 R Z75<|Jb4 tv R (Jc4 (haE<|f4.lds 0 2 R) I75 Z75 R)<|Ob h λx7 hx7 h=>Jr3 R C182 (nQ (κ:=Mk K2) (p0:=p0.Arena) (Ji3<|g0_0_0.stp S3) (Ji3<|g0_0_1.stp S3) hx7) ?_
 rintro _ w7 ⟨k8,rfl,e9⟩
 obtain⟨K10,S11,m12⟩:=Ji e9 3 R
 refine Tv<|Jn 2 R<|Ob h λp18 h hK14=>Jq3 [1] (λE L w'=>L=(18,.bool p18)::E/\∃κ',Stp [] K10 w7 κ' w') [(5,2),(6,1),(7,2),(8,2),(9,2),(10,1),(11,2),(12,2),(13,2)] [] tv ?_ ?_
 revert h
 cases ht15:(!x7)
 refine JF λh=>Jd3 R U79 R Z37 ?_
 have f16:=f4.stp S11
 refine Jb3 R I37 (f16.ld 2 R R)<|Jn3 R U37 R R<|Jd3 R U79 R Z75<|Jd3 R U75 R Z37<|Jb3 R I37 (f16.ld 0 R R)<|Jn3 R U37 R R<|Jn 2 R ?_
 cases h
 exact Jv1 _ tv ⟨R,_,Jj3⟩<|KM R
 refine JT λh=>Jn 1 R<|Jz3 R<|Jn 3 R<|Jz3 R<|Jn 3 R ?_
 cases h
 exact Jv1 _ tv ⟨R,_,Jj3⟩<|KM R
 rintro _ w17 _ ⟨rfl,K18,S19⟩
 have h:=hK14
 refine Jd ?_
 revert h
 cases ht20:p18
 refine JF λh=>Jy R<|Js<|Jp<|Jq<|Je [2,1,2,2] R<|Jd3 R U79 R Z37<|Jb3 R I37 ((f4.stp<|S11.tr S19).ld 2 R R)<|Jn3 R U37 R R<|Jb 1 R ?_
 have hN23:(p0.Prio.length:Int)<=9223372036854775807:=g0_1.len_le
 refine Ob h λq2 hq25 hK24=>?_
 clear h
 refine Jx1 (λL w'=>∃κ',L=[]/\Stp [] K18 w17 κ' w'/\q2=yD ()) ?_ ?_
 refine Jv<|Jp3 [20,21] (λk E L w'=>∃κ' v22,L=(22,vi v22)::E/\Stp [] K18 w17 κ' w'/\0<=v22/\Int.toNat ((p0.Prio.length:Int)-v22)=k/\cntM (gl p0) k v22 ()=some q2) ⟨_,_,⟨K18,0,R,Jj3,(by decide),(by simp),hq25⟩,(KM R)⟩ ?_
 rintro k _ w29 ⟨K30,v22,rfl,S31,hj23,hJ23,h⟩
 rcases k with _ | k
 have hk32:=h;obtain⟨o23,h⟩:=bT (yD (Sum.inl ()):Bool⊕((Unit)⊕(Unit)))
 have hc23:decide (v22<(p0.Prio.length:Int))=false:=Jo2 (by omega)
 refine Je3 R<|Jq<|Jw2 R hc23<|Jc1<|Jt<|Jt ?_
 cases h
 have h:=hk32
 refine Jb1 ?_
 cases h
 exact Jw1 _ ⟨K30,R,S31.wk R,R⟩ KN
 obtain⟨o23,h,hk32⟩:=BI h;unfold gl at h
 have hc23:decide (v22<(p0.Prio.length:Int))=true:=Jn2 (by omega)
 refine Je3 R<|Jq<|Jv2 R hc23<|Js<|Jp<|Jq<|Jv<|Je [2,1,2] R<|Ob h λx24 hx24 h=>Jc3 R g0_1 hx24 U37 Z2<|Jb3 R I2 ((g0_1.stp<|T4 S3 S11 S19 S31).gInt hx24)<|Jb 1 R<|Jg3 [2,2,2,2,2,2] 3 R<|Ob h λp31 h hK34=>Jq3 [20,21,22] (λE L w'=>L=(31,.bool p31)::E/\∃κ',Stp [] K30 w29 κ' w') [(3,2),(4,2),(5,2)] [] tv ?_ ?_
 revert h
 cases ht35:decide (x24<0)
 refine JF λh=>Jn 3 R ?_
 cases h
 exact Jv1 _ tv ⟨R,_,Jj3⟩<|KM R
 refine JT λh=>Jn 3 R ?_
 cases h
 exact Jv1 _ tv ⟨R,_,Jj3⟩<|KM R
 rintro _ w36 _ ⟨rfl,K37,S38⟩
 have h:=hK34
 refine Jd ?_
 revert h
 cases ht39:p31
 refine JF λh=>Jy R<|Js<|Jz<|Jp<|Jf3 R ?_
 have hw23:yC .i64 (v22+1)=v22+1:=wr1 hj23 (Jm2 hc23) hN23
 rw[hw23]
 have hc23:=Jm2 hc23
 cases h
 exact Jz1 λa ha=>⟨k,_,Ja3 _,⟨K37,v22+1,R,(S31.tr S38).wk R,by omega,by omega,hk32⟩,(ha.mm R)⟩
 refine JT λh=>Jx R<|Je3 R<|Ju<|Ja1<|Jw<|Jw ?_
 cases h
 obtain rfl:=Option.some.inj hk32
 have h:=yL hK24
 refine Ja1<|Jq2<|Jw<|Ja2 (l:=[.tmp 2]) V116 (Jp2 R R) R ?_
 cases h
 exact⟨K37,R,(hE.stp<|T5 S3 S11 S19 S31 S38)⟩
 rintro _ w26 ⟨K27,rfl,S28,rfl⟩
 have h:=yI hK24
 refine Jp<|Je3 R<|Ju<|Ja2 (l:=[.tmp 2]) V116 (Jp2 R R) R ?_
 cases h
 exact⟨K27,R,(hE.stp<|T4 S3 S11 S19 S28)⟩
 refine JT λh=>Jx R<|Je3 R<|Ju<|Jw<|Ja2 (l:=[.tmp 2]) V116 (Jp2 R R) R ?_
 cases h
 exact⟨K18,R,(hE.stp<|T3 S3 S11 S19)⟩
theorem od {af ae ah ai}{p0:Arena}{a1 u1}{p1:(List Int)}(g0_0:Rd (Rp.int .i64) κ w 0 af ae p0.Owner) (g0_1:Rd (Rp.sl (Rp.int .i64)) κ w 0 ah ai p0.Next) (g1:Rd (Rp.int .i64) κ w 0 a1 u1 p1){r:Arena}(h:kJ p0 p1=some r):Ret Tryz.prog 246 [.agg #[.slice af p0.Owner.length ae,.slice ah p0.Next.length ai],.slice a1 p1.length u1] w (λv w'=>∃(κ':Col) (ra0:Option Addr) (ru0:Nat) (ra1:Option Addr) (ru1:Nat),v= .agg #[.slice ra0 r.Owner.length ru0,.slice ra1 r.Next.length ru1]/\Ent κ w κ' w'/\Oc E6 2 κ' w' 2 ra0 ru0 r.Owner/\Oc (Ep.own E6 2) 37 κ' w' 3 ra1 ru1 r.Next):=by
 unfold kJ at h
 refine Jk3 κ F246 R N246 R λhE=>Je [1,1] R<|Js3 (κ:=κ) 2 R λb2 w1 K2 S3 f4=>Tv<|Jt3 (κ:=K2) 3 R X75 R λb4 w5 K6 S7 f8=>Tv<|Jd<|Je [1,1,1,1] R<|Jb4 tv R (Jc4 (haE (f4.stp S7).cells) I75 Z75 R)<|Ob h λx9 hx9 h=>Jr3 R C268 (qf (κ:=Mk K6) (p0:=p0) (Ji3<|g0_0.stp<|S3.tr S7) (Ji3<|g0_1.stp<|S3.tr S7) hx9) ?_
 rintro _ w12 ⟨k13,ac,ad,aa,ab,rfl,e14,f15,f16⟩
 obtain⟨K17,S18,m19⟩:=Ji e14 4 R
 refine Tv<|Jt3 (κ:=K17) 8 R X75 R λb5 w23 K24 S25 f26=>Tv<|Jv3 (κ:=K24) 8 (vc:=[.slice ac x9.Owner.length ad,.slice aa x9.Next.length ab]) R Z75 R f26 R λw27 S28 f29=>Tv<|Jd<|Jq<|Jg3 [2,2,2] 1 R<|Jn3 R U37 R R<|Jb 1 R ?_
 have hN30:(p1.length:Int)<=9223372036854775807:=g1.len_le
 refine Ob h λq2 hq32 hK31=>?_
 clear h
 refine Jo3 [4,5] (λE L w'=>∃κ',∃s3:(List<|List Int),L=E/\Stp [7,9] K24 w27 κ' w'/\Oc (Ep.own E6 2) 37 κ' w' 7 aa ab s3/\x9.Next.length=s3.length/\q2=yD s3) ?_ ?_
 refine Jv<|Jp3 [4,5,10,11] (λk E L w'=>∃κ' v12,∃s1:(List<|List Int),L=(12,vi v12)::E/\Stp [7,9] K24 w27 κ' w'/\Oc (Ep.own E6 2) 37 κ' w' 7 aa ab s1/\x9.Next.length=s1.length/\0<=v12/\Int.toNat ((p1.length:Int)-v12)=k/\cntM (iu p1) k v12 s1=some q2) ⟨_,_,⟨K24,0,x9.Next,R,Jj3,((f16.mx (cR (bL _) _) m19 R (R:4+3=7)).stp (S25.tr S28)),R,(by decide),(by simp),hq32⟩,(KM R)⟩ ?_
 rintro k _ w38 ⟨K39,v12,s1,rfl,S40,f41,hn42,hj30,hJ30,h⟩
 rcases k with _ | k
 have hk44:=h;obtain⟨o30,h⟩:=bT (yD (Sum.inl s1):Arena⊕(((List (List Int)))⊕((List (List Int)))))
 have hc30:decide (v12<(p1.length:Int))=false:=Jo2 (by omega)
 refine Je3 R<|Jq<|Jw2 R hc30<|Jc1<|Jt<|Jt ?_
 cases h
 have h:=hk44
 refine Jb1 ?_
 cases h
 exact Jw1 _ ⟨K39,s1,R,S40.wk R,f41,hn42,R⟩<|KM R
 obtain⟨o30,h,hk44⟩:=BI h;unfold iu at h
 have hc30:decide (v12<(p1.length:Int))=true:=Jn2 (by omega)
 refine Je3 R<|Jq<|Jv2 R hc30<|Js<|Jp<|Jq<|Jv<|Jg3 [2,2,1,2,2] 1 R<|Ob h λx15 hx15 h=>Jc3 R g1 hx15 U37 Z2<|Jb3 R I2 ((g1.stp<|T6 S3 S7 S18 S25 S28 S40).gInt hx15)<|Jb 2 R<|Je3 R<|Ob h λq4 h hK46=>Jo3 [4,5,10,11,12] (λE L w'=>∃κ',L=E/\Stp [7,9] K39 w38 κ' w'/\Oc (Ep.own E6 2) 37 κ' w' 7 aa ab q4/\x9.Next.length=q4.length) ?_ ?_
 revert h
 cases ht52:decide (0<=x15)
 refine JF λh=>Jy R<|Js ?_
 cases h
 exact Jw1 _ ⟨K39,R,Jj3,f41,hn42⟩<|KM R
 refine JT λh=>Jx R<|Ja [2,1,2,2,1,2,1] R<|Jd3 R U75 R Z31<|Jb3 R I31 ((f29.stp S40).ld 1 R R)<|Jn 2 R<|Jw3 (κ:=K39) (E:=E6) 9 [] (parts:=[(0,.tmp 22)]) (cells:=[vi x15]) (xs:=([x15]:List Int)) R Y37 bG R ⟨[vi x15],[],Zl K39 w38 [],Zl K39 w38 [],R,Zl.sp (l1:=[]) (l2:=[]) R,Zl.sr (l1:=[]) (l2:=[]),R,R⟩ λak aj w54 K55 S56 f57=>Tv<|Ob h λx24 hx24 h=>Jf R (Jf2 f41.rdc hx24 U31 Z37 R R hn42 R)<|Ob h λy177 hy177 h=>Jk1 (κ:=K55) (E:=(Ep.own E6 2)) 7 [9] R R R R R R R R Z37 R ⟨_,_,R,f57⟩ R R (f41.stp S56) hy177 λw59 K60 S61 f62=>Tv<|?_
 have hn63:x9.Next.length=y177.length:=hn42.trans (Jt2 hy177).2.2.2.symm
 refine Jo ?_
 cases h
 exact Jw1 _ ⟨K60,R,(S56.tr S61).wk R,f62,hn63⟩<|KM R
 rintro _ w47 ⟨K48,rfl,S49,f50,hn51⟩
 have h:=hK46
 refine Jz<|Jp<|Jf3 R ?_
 have hw30:yC .i64 (v12+1)=v12+1:=wr1 hj30 (Jm2 hc30) hN30
 rw[hw30]
 have hc30:=Jm2 hc30
 cases h
 exact Jz1 λa ha=>⟨k,_,Ja3 _,⟨K48,v12+1,q4,R,(S40.tr S49).wk R,f50,hn51,by omega,by omega,hk44⟩,(ha.mm R)⟩
 rintro _ w33 ⟨K34,s3,rfl,S35,f36,hn37,rfl⟩
 have h:=yI hK31
 refine Jp<|Je [1,1] R<|Jb4 tv R (Jc4 (haE (f29.stp S35).cells) I75 Z75 R)<|Jv3 (κ:=K34) 3 (vc:=[.slice ac x9.Owner.length ad,.slice aa x9.Next.length ab]) R Z75 R (f8.stp<|T4 S18 S25 S28 S35) R λw66 S67 f68=>Tv<|Jd<|Ju<|Ja2 (l:=[.cell 4 75]) V246 (bM R f68 I75 Z75 R R) R ?_
 cases h
 exact⟨(λb=>ren [(6,2),(7,3)]<|K34 b),ac,ad,aa,ab,(by simp only[hn37]),((hE.stp<|T7 S3 S7 S18 S25 S28 S35 S67).map (ren [(6,2),(7,3)]) R R),(((f15.mx (bL _) m19 R (R:4+2=6)).stp (T4 S25 S28 S35 S67)).map (ren [(6,2),(7,3)]) R R),((f36.stp S67).map (ren [(6,2),(7,3)]) R R)⟩
theorem lF {a0 u0}{p0:(List Int)}{p1:Int}(g0:Rd (Rp.int .i64) κ w 0 a0 u0 p0){r:Bool}(h:kl p0 p1=some r):Ret Tryz.prog 158 [.slice a0 p0.length u0,vi p1] w (Pvb κ w r):=by
 unfold kl at h
 refine Jk3 κ F158 R N158 R λhE=>Je3 R<|Jg3 [2,2,2,2,2,2,2,1,2,2] 1 R<|Jn3 R U37 R R<|Jn 3 R<|Ob h λp13 h hK1=>Jq3 [4] (λE L w'=>L=(13,.bool p13)::E/\∃κ',Stp [] κ w κ' w') [(5,2),(6,2),(7,1),(8,2)] [(9,2)] tv ?_ ?_
 revert h
 cases ht2:decide ((p0.length:Int)<=p1)
 refine JF λh=>Jn 2 R<|Jz3 R<|Jn 1 R ?_
 cases h
 exact Jv1 _ tv ⟨R,_,Jj3⟩<|KM R
 refine JT λh=>Jn 2 R<|Ob h λx12 hx12 h=>Jr3 R C215 (qX (κ:=Mk κ) (Ji3 g0) hx12) ?_
 rintro _ w3 ⟨k4,rfl,e5⟩
 obtain⟨K6,S7,m8⟩:=Ji e5 2 R
 refine Tv<|Jn 1 R ?_
 cases h
 exact Jv1 _ tv ⟨R,_,S7.wk R⟩<|KM R
 rintro _ w10 _ ⟨rfl,K11,S12⟩
 have h:=hK1
 refine Jb 1 R<|Ju<|Ja2 (l:=[.tmp 4]) V158 (Jp2 R R) R ?_
 cases h
 exact⟨K11,R,(hE.stp S12)⟩
theorem pU {az aE aA aK}{p0:Det}{aC aI aH aD}{p1:Det}{p2:Int}(g0_0:Rd (Rp.sl (Rp.int .i64)) κ w 0 az aE p0.Next) (g0_1:Rd Pair.rp κ w 0 aA aK p0.Pairs) (g1_0:Rd (Rp.sl (Rp.int .i64)) κ w 0 aC aI p1.Next) (g1_1:Rd Pair.rp κ w 0 aH aD p1.Pairs){r:Det×Bool}(h:eD p0 p1 p2=some r):Ret Tryz.prog 186 [.agg #[.slice az p0.Next.length aE,.slice aA p0.Pairs.length aK],.agg #[.slice aC p1.Next.length aI,.slice aH p1.Pairs.length aD],vi p2] w (λv w'=>∃(κ':Col) (ra0:Option Addr) (ru0:Nat) (ra1:Option Addr) (ru1:Nat),v= .tuple #[.agg #[.slice ra0 r.1.Next.length ru0,.slice ra1 r.1.Pairs.length ru1],.bool r.2]/\Ent κ w κ' w'/\Oc (Ep.own E6 2) 37 κ' w' 2 ra0 ru0 r.1.Next/\Oc Pair.ep127 127 κ' w' 3 ra1 ru1 r.1.Pairs):=by
 unfold eD at h
 refine Jk3 κ F186 R N186 R λhE=>Je [1,1,1,2] R<|Js3 (κ:=κ) 2 R λb3 w1 K2 S3 f4=>Tv<|Js3 (κ:=K2) 3 R λb4 w5 K6 S7 f8=>Tv<|Jt3 (κ:=K6) 4 R X71 R λb6 w9 K10 S11 f12=>Tv<|Jb 1 R<|Je [1,1,2] R<|Jw3 (κ:=K10) (E:=E6) 5 [] (parts:=[(0,.const (vi 0)),(1,.const (vi 0))]) (cells:=[vi 0,vi 0]) (xs:=([0,0]:List Int)) R Y37 bG R ⟨[vi 0],[vi 0],Zl K10 w9 [],Zl K10 w9 [],R,Zl.sp (l1:=[]) (l2:=[]) R,Zl.sr (l1:=[]) (l2:=[]),R,⟨[vi 0],[],Zl K10 w9 [],Zl K10 w9 [],R,Zl.sp (l1:=[]) (l2:=[]) R,Zl.sr (l1:=[]) (l2:=[]),R,R⟩⟩ λaB aF w13 K14 S15 f16=>Tv<|Jw3 (κ:=K14) (E:=(Ep.own E6 2)) 6 [5] (parts:=[(0,.tmp 16)]) (cells:=[.slice aB ([0,0]:List Int).length aF]) (xs:=([([0,0]:List Int)]:List (List Int))) R Y31 bQ R ⟨[.slice aB ([0,0]:List Int).length aF],[],Zl K14 w13 [5],Zl K14 w13 [],R,Zl.sp (l1:=[5]) (l2:=[]) R,Zl.sr (l1:=[5]) (l2:=[]),⟨_,_,R,f16⟩,R⟩ λaP aL w17 K18 S19 f20=>Tv<|Jb 1 R<|Je [2,1,1] R<|Jf R (bK (parts:=[]) (cells:=[.slice none 0 0,.slice none 0 0]) R R (by kernel_rfl))<|Jt3 (κ:=K18) 7 R X71 R λb9 w21 K22 S23 f24=>Tv<|Jv3 (κ:=K22) 7 (vc:=[.slice none 0 0,.slice none 0 0]) R Z71 R f24 R λw25 S26 f27=>Tv<|Jd<|Jq<|Je3 R<|Ob h λq2 hq30 hK29=>?_
 clear h
 refine Jo3 [3,4,6,9] (λE L w'=>∃κ',∃s3:(List<|List Int)×Int×(List<|List Int),∃av aw aa ab,L=(8,.slice av s3.1.length aw)::E/\Stp [6,7,8,9,10,12,13] K22 w25 κ' w'/\Oc (Ep.own E6 2) 37 κ' w' 6 av aw s3.1/\Oc (Ep.own E6 2) 37 κ' w' 8 aa ab s3.2.2/\Bc κ' w' 7 b9 71 [.slice aa s3.2.2.length ab,.slice none 0 0]/\q2=yD s3) ?_ ?_
 refine Jv<|Jp3 [2,3,4,6,9] (λk E L w'=>∃κ',∃s1:(List<|List Int)×Int×(List<|List Int),∃af ac ap aq,L=(8,.slice af s1.1.length ac)::(10,vi s1.2.1)::E/\Stp [6,7,8,9,10,12,13] K22 w25 κ' w'/\Oc (Ep.own E6 2) 37 κ' w' 6 af ac s1.1/\Oc (Ep.own E6 2) 37 κ' w' 8 ap aq s1.2.2/\Bc κ' w' 7 b9 71 [.slice ap s1.2.2.length aq,.slice none 0 0]/\ca (fK p0 p1 p2) k s1=some q2) ⟨_,_,⟨K22,((([([0,0]:List Int)]:List (List Int)):(List<|List Int)),(0:Int),(([]:List (List Int)):(List<|List Int))),aP,aL,none,0,R,Jj3,(f20.stp<|S23.tr S26),Ow.nil,f27,hq30⟩,(KM R)⟩ ?_
 rintro k _ w37 ⟨K38,s1,af,ac,ap,aq,rfl,S39,f40,f41,f42,h⟩
 rcases k with _ | k
 cases h
 obtain⟨o28,h,hk44⟩:=BI h;unfold fK at h
 refine Jq<|Jg3 [2,2,2,2] 2 R<|Jn3 R U31 R R<|Jb 1 R ?_
 revert h
 cases ht45:decide (s1.2.1<(s1.1.length:Int))
 refine JF λh=>Jy R<|Jc1<|Jt<|Jt ?_
 cases h
 have h:=hk44
 refine Jb1 ?_
 cases h
 exact Jw1 _ ⟨K38,(s1.1,s1.2.1,s1.2.2),af,ac,ap,aq,R,S39.wk R,f40,f41,f42,R⟩<|KM R
 refine JT λh=>Jx R<|Js<|Jp<|Jq<|Jv<|Je [1,2] R<|Jx3 (κ:=K38) (E:=E6) 9 R Y37 bG R λaN aS w46 K47 S48 f49=>Tv<|Jb 1 R<|Jq<|Je3 R<|Ob h λ_ hr50 h=>?_
 have hN50:=jo hr50
 refine Ob h λq5 hq52 hK51=>?_
 clear h
 refine Jo3 [2,3,4,6,9,10] (λE L w'=>∃κ',∃s6:(List<|List Int)×(List Int),∃au ar ai ae,L=(8,.slice au s6.1.length ar)::(11,.slice ai s6.2.length ae)::E/\Stp [6,9,12,13] K47 w46 κ' w'/\Oc (Ep.own E6 2) 37 κ' w' 6 au ar s6.1/\Oc E6 2 κ' w' 9 ai ae s6.2/\q5=yD s6) ?_ ?_
 refine Jv<|Jp3 [2,3,4,6,9,10] (λk E L w'=>∃κ' v12,∃s4:(List<|List Int)×(List Int),∃ah ad aj an,L=(8,.slice ah s4.1.length ad)::(11,.slice aj s4.2.length an)::(12,vi v12)::E/\Stp [6,9,12,13] K47 w46 κ' w'/\Oc (Ep.own E6 2) 37 κ' w' 6 ah ad s4.1/\Oc E6 2 κ' w' 9 aj an s4.2/\0<=v12/\Int.toNat (p2-v12)=k/\cntM (d8 p0 p1 s1) k v12 s4=some q5) ⟨_,_,⟨K47,0,(s1.1,(([]:List Int):(List Int))),af,ac,aN,aS,R,Jj3,(f40.stp S48),f49,(by decide),(by simp),hq52⟩,(KM R)⟩ ?_
 rintro k _ w58 ⟨K59,v12,s4,ah,ad,aj,an,rfl,S60,f61,f62,hj50,hJ50,h⟩
 rcases k with _ | k
 have hk64:=h;obtain⟨o50,h⟩:=bT (yD (Sum.inl s4):(Det×Bool)⊕(((List (List Int))×(List Int))⊕((List (List Int))×(List Int))))
 have hc50:decide (v12<p2)=false:=Jo2 (by omega)
 refine Jq<|Je3 R<|Jw2 R hc50<|Jc1<|Jt<|Jt ?_
 cases h
 have h:=hk64
 refine Jb1 ?_
 cases h
 exact Jw1 _ ⟨K59,(s4.1,s4.2),ah,ad,aj,an,R,S60.wk R,f61,f62,R⟩<|KM R
 obtain⟨o50,h,hk64⟩:=BI h;unfold d8 at h
 have hc50:decide (v12<p2)=true:=Jn2 (by omega)
 refine Jq<|Je3 R<|Jv2 R hc50<|Js<|Jp<|Jq<|Jv<|Jq<|Js1 (κ:=K59) [0,2,6] none [(0,2),(2,2),(3,2),(4,2),(10,2),(1,0),(5,0),(6,2),(7,0),(8,2),(9,0),(11,2),(12,0),(13,2)] [] (by kernel_rfl) (by kernel_rfl) λw66 S65=>Jd3 R U71 R Z31<|Jn 2 R<|Ob h λx35 hx35 h=>Jc3 R f61.rdc hx35 U31 Z37<|Jn 1 R<|Jg R (Jc2 I31 R R<|hvC ((f4.stp<|T10 S7 S11 S15 S19 S23 S26 S39 S48 S60 S65).ld 0 R R) R) ?_
 have f68:=f61.stp S65
 obtain⟨ax35,ux35,f69,hl70⟩:=f68.rdc.gSl hx35
 refine Jg R (Jc2 I37 R R<|hvC hl70 R)<|Ob h λx37 hx37 h=>Jc3 R f69 hx37 U37 Z2<|Jg R (Jc2 I2 R R<|hvC (f69.gInt hx37) R)<|Ob h λx39 hx39 h=>Jc3 R g0_0 hx39 U31 Z37 ?_
 obtain⟨ax39,ux39,f72,hl73⟩:=(g0_0.stp (T11 S3 S7 S11 S15 S19 S23 S26 S39 S48 S60 S65)).gSl hx39
 refine Jg R (Jc2 I37 R R<|hvC hl73 R)<|Ob h λx42 hx42 h=>Jc3 R f72 hx42 U37 Z2<|Jg R (Jc2 I2 R R<|hvC (f72.gInt hx42) R)<|Jn 1 R<|Jt1<|Jd<|Jq<|Js1 (κ:=K59) [0,3,6] none [(0,2),(2,2),(3,2),(4,2),(10,2),(1,0),(5,0),(6,2),(7,0),(8,2),(9,0),(11,2),(12,0),(13,2)] [] (by kernel_rfl) (by kernel_rfl) λw75 S74=>Jd3 R U71 R Z31<|Jn 2 R<|Ob h λx48 hx48 h=>Jc3 R f68.rdc hx48 U31 Z37<|Jn 1 R<|Jg R (Jc2 I31 R R<|hvC ((f8.stp<|T10 S11 S15 S19 S23 S26 S39 S48 S60 S65 S74).ld 0 R R) R) ?_
 have f77:=f68.stp S74
 obtain⟨ax48,ux48,f78,hl79⟩:=f77.rdc.gSl hx48
 refine Jg R (Jc2 I37 R R<|hvC hl79 R)<|Ob h λx50 hx50 h=>Jc3 R f78 hx50 U37 Z2<|Jg R (Jc2 I2 R R<|hvC (f78.gInt hx50) R)<|Ob h λx52 hx52 h=>Jc3 R g1_0 hx52 U31 Z37 ?_
 obtain⟨ax52,ux52,f81,hl82⟩:=(g1_0.stp (T12 S3 S7 S11 S15 S19 S23 S26 S39 S48 S60 S65 S74)).gSl hx52
 refine Jg R (Jc2 I37 R R<|hvC hl82 R)<|Ob h λx55 hx55 h=>Jc3 R f81 hx55 U37 Z2<|Jg R (Jc2 I2 R R<|hvC (f81.gInt hx55) R)<|Jn 1 R<|Jt1<|Jd<|Jg3 [2,2,2,1,2] 3 R<|Ob h λx60 hx60 h=>Jr3 R C95 (qw (κ:=Mk K59) (Ji3 f77.rdc) hx60) ?_
 rintro _ w83 ⟨k84,rfl,e85⟩
 obtain⟨K86,S87,m88⟩:=Ji e85 10 R
 refine Tv<|Jb 1 R<|Jq<|Je3 R<|Ob h λq7 h hK90=>Jo3 [2,3,4,6,9,10,11,12] (λE L w'=>∃κ' am ak,L=(8,.slice am q7.1.length ak)::(15,vi q7.2)::E/\Stp [6,12,13] K86 w83 κ' w'/\Oc (Ep.own E6 2) 37 κ' w' 6 am ak q7.1) ?_ ?_
 revert h
 cases ht95:decide (x60<0)
 refine JF λh=>Jy R<|Js ?_
 cases h
 exact Jw1 _ ⟨K86,ah,ad,R,Jj3,(f77.stp S87)⟩<|KM R
 refine JT λh=>Jx R<|Jg3 [2,2,2] 1 R<|Jn3 R U31 R R<|Jb 1 R<|Jh3 [2,2,2,1,1,1,2] 3 R<|Jw3 (κ:=K86) (E:=E6) 12 [] (parts:=[(0,.tmp 66),(1,.tmp 67)]) (cells:=[vi x42,vi x55]) (xs:=([x42,x55]:List Int)) R Y37 bG R ⟨[vi x42],[vi x55],Zl K86 w83 [],Zl K86 w83 [],R,Zl.sp (l1:=[]) (l2:=[]) R,Zl.sr (l1:=[]) (l2:=[]),R,⟨[vi x55],[],Zl K86 w83 [],Zl K86 w83 [],R,Zl.sp (l1:=[]) (l2:=[]) R,Zl.sr (l1:=[]) (l2:=[]),R,R⟩⟩ λaJ aG w96 K97 S98 f99=>Tv<|Jw3 (κ:=K97) (E:=(Ep.own E6 2)) 13 [12] (parts:=[(0,.tmp 68)]) (cells:=[.slice aJ ([x42,x55]:List Int).length aG]) (xs:=([([x42,x55]:List Int)]:List (List Int))) R Y31 bQ R ⟨[.slice aJ ([x42,x55]:List Int).length aG],[],Zl K97 w96 [12],Zl K97 w96 [],R,Zl.sp (l1:=[12]) (l2:=[]) R,Zl.sr (l1:=[12]) (l2:=[]),⟨_,_,R,f99⟩,R⟩ λaX aZ w100 K101 S102 f103=>Tv<|Ob h λx70 hx70 h=>Jy3 (κ:=K101) (E:=(Ep.own E6 2)) 6 [13] R Y31 bQ R (f77.stp<|T3 S87 S98 S102) f103.src (dE R) hx70 R λaR aO w105 K106 S107 f108=>Tv<|Jc 1 R ?_
 cases h
 exact Jw1 _ ⟨K106,aR,aO,R,(T3 S98 S102 S107).wk R,f108⟩<|KM R
 rintro _ w91 ⟨K92,am,ak,rfl,S93,f94⟩
 have h:=hK90
 refine Jp<|Jh3 [2,2,1,1,2] 2 R<|Jw3 (κ:=K92) (E:=E6) 12 [] (parts:=[(0,.tmp 72)]) (cells:=[vi q7.2]) (xs:=([q7.2]:List Int)) R Y37 bG R ⟨[vi q7.2],[],Zl K92 w91 [],Zl K92 w91 [],R,Zl.sp (l1:=[]) (l2:=[]) R,Zl.sr (l1:=[]) (l2:=[]),R,R⟩ λaY ba w110 K111 S112 f113=>Tv<|Ob h λx74 hx74 h=>Jy3 (κ:=K111) (E:=E6) 9 [] R Y37 bG R (f62.stp<|T5 S65 S74 S87 S93 S112) (Sl.srcP (bP _) f113.rdc) bI hx74 R λaM aQ w115 K116 S117 f118=>Tv<|Jc 1 R<|Jz<|Jp<|Jf3 R ?_
 have hw50:yC .i64 (v12+1)=v12+1:=wr1 hj50 (Jm2 hc50) hN50
 rw[hw50]
 have hc50:=Jm2 hc50
 cases h
 exact Jz1 λa ha=>⟨k,_,Ja3 _,⟨K116,v12+1,(q7.1,x74),am,ak,aM,aQ,R,(T7 S60 S65 S74 S87 S93 S112 S117).wk R,(f94.stp<|S112.tr S117),f118,by omega,by omega,hk64⟩,(ha.mm R)⟩
 rintro _ w53 ⟨K54,s6,au,ar,ai,ae,rfl,S55,f56,f57,rfl⟩
 have h:=yI hK51
 refine Jp<|Jq<|Jg3 [2,2,2] 1 R<|Jn3 R U31 R R<|Jb 1 R ?_
 revert h
 cases ht120:decide (48<(s6.1.length:Int))
 refine JF λh=>Jy R<|Js<|Jp<|Ja [2,1,2,1,1,2,1] R<|Jd3 R U71 R Z31 ?_
 have f126:=f42.stp (S48.tr S55)
 refine Jb3 R I31 (f126.ld 0 R R)<|Jn 1 R<|Jw3 (κ:=K54) (E:=(Ep.own E6 2)) 10 [9] (parts:=[(0,.tmp 81)]) (cells:=[.slice ai s6.2.length ae]) (xs:=([s6.2]:List (List Int))) R Y31 bQ R ⟨[.slice ai s6.2.length ae],[],Zl K54 w53 [9],Zl K54 w53 [],R,Zl.sp (l1:=[9]) (l2:=[]) R,Zl.sr (l1:=[9]) (l2:=[]),⟨_,_,R,f57⟩,R⟩ λaW aT w127 K128 S129 f130=>Tv<|Ob h λx83 hx83 h=>Jy3 (κ:=K128) (E:=(Ep.own E6 2)) 8 [10] R Y31 bQ R (f41.stp<|T3 S48 S55 S129) f130.src (dE R) hx83 R λax ay w132 K133 S134 f135=>Tv<|Jd3 R U71 R Z31<|Ju3 (κ:=K133) 7 (off:=0) (vc:=[.slice ax x83.length ay]) (cs':=[.slice ax x83.length ay,.slice none 0 0]) R Z31 R (f126.stp<|S129.tr S134) R λw137 S138 f139=>Tv<|Jo<|Jz<|Jp<|Jf3 R ?_
 cases h
 exact Jz1 λa ha=>⟨k,_,Ja3 _,⟨K133,(s6.1,((IntKind.i64.wrap<|s1.2.1+1):Int),x83),au,ar,ax,ay,R,(T6 S39 S48 S55 S129 S134 S138).wk R,(f56.stp<|T3 S129 S134 S138),(f135.stp S138),f139,hk44⟩,(ha.mm R)⟩
 refine JT λh=>Jx R<|Je [2,1,2] R<|Jf R (bK (parts:=[]) (cells:=[.slice none 0 0,.slice none 0 0]) R R (by kernel_rfl))<|Jv3 (κ:=K54) 4 (vc:=[.slice none 0 0,.slice none 0 0]) R Z71 R (f12.stp<|T7 S15 S19 S23 S26 S39 S48 S55) R λw122 S123 f124=>Tv<|Jb 1 R<|Ju<|Jw<|Ja1<|Jw<|Jw ?_
 cases h
 obtain rfl:=Option.some.inj hk44
 have h:=yL hK29
 refine Ja1<|Jq2<|Jw<|Ja2 (l:=[.cell 6 71,.tmp 7]) V186 (bM R f124 I71 Z71 R<|Jp2 R R) R ?_
 cases h
 exact⟨K54,none,0,none,0,R,(hE.stp<|T11 S3 S7 S11 S15 S19 S23 S26 S39 S48 S55 S123),Ow.nil,Ow.nil⟩
 rintro _ w31 ⟨K32,s3,av,aw,aa,ab,rfl,S33,f34,f35,f36,rfl⟩
 have h:=yI hK29
 refine Jp<|Jq<|Js1 (κ:=K32) [2,3] none [(0,2),(2,2),(4,2),(6,2),(1,0),(5,0),(3,1),(7,1),(8,1),(9,2),(10,1)] [] (by kernel_rfl) (by kernel_rfl) λw143 S142=>Jd3 R U71 R Z69<|Jn 1 R<|Jd3 R U71 R Z69<|Jn 1 R<|Jg R (Jc2 I69 R R<|hvC ((f4.stp<|T8 S7 S11 S15 S19 S23 S26 S33 S142).ld 1 R R) R)<|Jg R (Jc2 I69 R R<|hvC ((f8.stp<|T7 S11 S15 S19 S23 S26 S33 S142).ld 1 R R) R)<|Ob h λx88 hx88 h=>?_
 have f147:=f34.stp S142
 refine Jr3 R C98 (m5 (κ:=Mk K32) (Ji3<|g0_1.stp<|T9 S3 S7 S11 S15 S19 S23 S26 S33 S142) (Ji3 f147.rdc) hx88) ?_
 rintro _ w148 ⟨k149,aV,bc,rfl,e150,f151⟩
 obtain⟨K152,S153,m154⟩:=Ji e150 9 R
 refine⟨(S153.cl R),Ob h λx92 hx92 h=>Jr3 R C98 (m5 (κ:=Mk K152) (Ji3<|g1_1.stp<|T10 S3 S7 S11 S15 S19 S23 S26 S33 S142 S153) (Ji3 (f147.stp S153).rdc) hx92) ?_⟩
 rintro _ w159 ⟨k160,bb,aU,rfl,e161,f162⟩
 obtain⟨K163,S164,m165⟩:=Ji e161 12 R
 have S001:=(S153.tr S164)
 refine⟨(S001.cl R),Ob h λx93 hx93 h=>Jm1 (κ:=K163) (E:=Pair.ep127) 11 [14] R R R R R R R R R Y69 cw R R R R ((f151.mx Pair.no127 m154 R (R:9+2=11)).stp S164) (f162.mx Pair.no127 m165 R (R:12+2=14)).src (dE R) hx93 R λal ao w169 K170 S171 f172=>⟨((S001.tr S171).cl R),Jd3 R U71 R Z69<|Ju3 (κ:=K170) 7 (off:=1) (vc:=[.slice al x93.length ao]) (cs':=[.slice aa s3.2.2.length ab,.slice al x93.length ao]) R Z69 R (f36.stp<|T4 S142 S153 S164 S171) R λw174 S175 f176=>⟨((T3 S001 S171 S175).cl R),Jt1<|Jd<|Je [1,1,2] R<|Jb4 tv R (Jc4 (haE f176.cells) I71 Z71 R)<|Jv3 (κ:=K170) 4 (vc:=[.slice aa s3.2.2.length ab,.slice al x93.length ao]) R Z71 R (f12.stp<|T10 S15 S19 S23 S26 S33 S142 S153 S164 S171 S175) R λw178 S179 f180=>Tv<|Jb 1 R<|Ju<|Ja2 (l:=[.cell 6 71,.tmp 7]) V186 (bM R f180 I71 Z71 R<|Jp2 R R) R ?_⟩⟩⟩
 cases h
 exact⟨(λb=>ren [(8,2),(11,3)]<|K170 b),aa,ab,al,ao,R,((hE.stp<|T14 S3 S7 S11 S15 S19 S23 S26 S33 S142 S153 S164 S171 S175 S179).map (ren [(8,2),(11,3)]) R R),((f35.stp<|T6 S142 S153 S164 S171 S175 S179).map (ren [(8,2),(11,3)]) R R),((f172.stp<|S175.tr S179).map (ren [(8,2),(11,3)]) R R)⟩
theorem mF {aw aC ax aF av aA aD aE aB ay}{p0:l7Game}{a1 u1}{p1:(List Bool)}{p2:Int}{a3 u3}{p3:(List Bool)}(g0_0:Rd (Rp.int .i64) κ w 0 aw aC p0.owner) (g0_1:Rd (Rp.int .i64) κ w 0 ax aF p0.prio) (g0_2:Rd (Rp.sl (Rp.int .i64)) κ w 0 av aA p0.next) (g0_3:Rd (Rp.sl (Rp.int .i64)) κ w 0 aD aE p0.prev) (g0_4:Rd (Rp.int .i64) κ w 0 aB ay p0.pick) (g1:Rd Rp.bool κ w 0 a1 u1 p1) (g3:Rd Rp.bool κ w 0 a3 u3 p3){r:(List Bool)}(h:gJ p0 p1 p2 p3=some r):Ret Tryz.prog 272 [.agg #[.slice aw p0.owner.length aC,.slice ax p0.prio.length aF,.slice av p0.next.length aA,.slice aD p0.prev.length aE,.slice aB p0.pick.length ay],.slice a1 p1.length u1,vi p2,.slice a3 p3.length u3] w (Pvs Ep.bool 4 κ w r):=by
 unfold gJ at h
 refine Jk3 κ F272 R N272 R λhE=>Je [1,2] R<|Js3 (κ:=κ) 2 R λb4 w1 K2 S3 f4=>Tv<|Jb 1 R<|Jg3 [2,2,1,2] 1 R<|Jn3 R U178 R R<|Ob h λx19 hx19 h=>Jl1 (κ:=K2) (E:=Ep.bool) (z:=(false:Bool)) 3 R R R R R R R Y178 du R R R R R (λ_ _ _=>R) (Ju2 hx19) λaa ab w5 K6 S7 f8=>Tv<|Jb 1 R<|Jg3 [2,2,1,2] 1 R<|Jn3 R U178 R R<|Ob h λx22 hx22 h=>Jl1 (κ:=K6) (E:=E6) (z:=(0:Int)) 4 R R R R R R R Y37 bG R R R R R (λ_ _ _=>R) (Ju2 hx22) λac ad w9 K10 S11 f12=>Tv<|Jb 1 R<|Je [1,2] R<|Jx3 (κ:=K10) (E:=E6) 5 R Y37 bG R λaH aM w13 K14 S15 f16=>Tv<|Jb 1 R<|Jq<|Je3 R ?_
 have hN17:(p1.length:Int)<=9223372036854775807:=g1.len_le
 refine Ob h λq2 hq19 hK18=>?_
 clear h
 refine Jo3 [1,2,4,9,10] (λE L w'=>∃κ',∃s3:(List Int)×(List Bool)×(List Int),∃ao aq,L=(11,.slice ao s3.1.length aq)::E/\Stp [3,4,5] K14 w13 κ' w'/\Oc E6 2 κ' w' 5 ao aq s3.1/\Oc Ep.bool 4 κ' w' 3 aa ab s3.2.1/\x19.length=s3.2.1.length/\Oc E6 2 κ' w' 4 ac ad s3.2.2/\x22.length=s3.2.2.length/\q2=yD s3) ?_ ?_
 refine Jv<|Jp3 [1,2,3,4,9,10] (λk E L w'=>∃κ' v12,∃s1:(List Int)×(List Bool)×(List Int),∃ai ah,L=(11,.slice ai s1.1.length ah)::(12,vi v12)::E/\Stp [3,4,5] K14 w13 κ' w'/\Oc E6 2 κ' w' 5 ai ah s1.1/\Oc Ep.bool 4 κ' w' 3 aa ab s1.2.1/\x19.length=s1.2.1.length/\Oc E6 2 κ' w' 4 ac ad s1.2.2/\x22.length=s1.2.2.length/\0<=v12/\Int.toNat ((p1.length:Int)-v12)=k/\cntM (eb p0 p1 p3) k v12 s1=some q2) ⟨_,_,⟨K14,0,((([]:List Int):(List Int)),x19,x22),aH,aM,R,Jj3,f16,(f8.stp<|S11.tr S15),R,(f12.stp S15),R,(by decide),(by simp),hq19⟩,(KM R)⟩ ?_
 rintro k _ w28 ⟨K29,v12,s1,ai,ah,rfl,S30,f31,f32,hn33,f34,hn35,hj17,hJ17,h⟩
 rcases k with _ | k
 have hk38:=h;obtain⟨o17,h⟩:=bT (yD (Sum.inl s1):(List Bool)⊕(((List Int)×(List Bool)×(List Int))⊕((List Int)×(List Bool)×(List Int))))
 have hc17:decide (v12<(p1.length:Int))=false:=Jo2 (by omega)
 refine Jq<|Jg3 [2,2,2,2] 2 R<|Jn3 R U178 R R<|Jb 1 R<|Jw2 R hc17<|Jc1<|Jt<|Jt ?_
 cases h
 have h:=hk38
 refine Jb1 ?_
 cases h
 exact Jw1 _ ⟨K29,(s1.1,s1.2.1,s1.2.2),ai,ah,R,S30.wk R,f31,f32,hn33,f34,hn35,R⟩<|KM R
 obtain⟨o17,h,hk38⟩:=BI h;unfold eb at h
 have hc17:decide (v12<(p1.length:Int))=true:=Jn2 (by omega)
 refine Jq<|Jg3 [2,2,2,2] 2 R<|Jn3 R U178 R R<|Jb 1 R<|Jv2 R hc17<|Js<|Jp<|Jq<|Jv<|Jq<|Jg3 [2,2,2,1] 2 R<|Ob h λx32 hx32 h=>Jc3 R g1 hx32 U178 Z4 ?_
 have f39:=g1.stp (T5 S3 S7 S11 S15 S30)
 refine Jb3 R I4 (f39.gBool hx32)<|Jd<|Ob h λq4 h hK40=>Jo3 [1,2,3,4,9,10,11,12] (λE L w'=>∃κ',L=E/\Stp [4] K29 w28 κ' w'/\Oc E6 2 κ' w' 4 ac ad q4/\x22.length=q4.length) ?_ ?_
 revert h
 cases ht46:x32
 refine JF λh=>Jy R<|Js ?_
 cases h
 exact Jw1 _ ⟨K29,R,Jj3,f34,hn35⟩<|KM R
 have S001:=(T5 S3 S7 S11 S15 S30)
 refine JT λh=>Jx R<|Jh3 [2,2,1,2,2,1,2,1] 2 R<|Jb4 tv R (Jc4 (haE (f4.stp<|T4 S7 S11 S15 S30).cells) I210 Z210 R)<|Jn 2 R<|Ob h λx39 hx39 h=>Jr3 R C249 (nc (κ:=Mk K29) (p0:=p0) (Ji3<|g0_0.stp S001) (Ji3<|g0_1.stp S001) (Ji3<|g0_2.stp S001) (Ji3<|g0_3.stp S001) (Ji3<|g0_4.stp S001) (Ji3 f39) hx39) ?_
 rintro _ w53 ⟨k54,rfl,e55⟩
 obtain⟨K56,S57,m58⟩:=Ji e55 6 R
 refine Tv<|Ob h λx40 hx40 h=>Jf R (Jf2 f34.rdc hx40 U37 Z2 R R hn35 R)<|Ob h λy386 hy386 h=>Jk1 (κ:=K56) (E:=E6) 4 [] R R R R R R R R Z2 R R R R (f34.stp S57) hy386 λw61 K62 S63 f64=>Tv<|?_
 have hn65:x22.length=y386.length:=hn35.trans (Jt2 hy386).2.2.2.symm
 refine Jo ?_
 cases h
 exact Jw1 _ ⟨K62,R,(S57.tr S63).wk R,f64,hn65⟩<|KM R
 rintro _ w41 ⟨K42,rfl,S43,f44,hn45⟩
 have h:=hK40
 refine Jp<|Jg3 [2,2,2,1,2,2,2,2,1,2] 2 R<|Ob h λx43 hx43 h=>Jc3 R f39 hx43 U178 Z4<|Jb3 R I4 ((f39.stp S43).gBool hx43)<|Jn 1 R<|Ob h λp50 h hK67=>Jq3 [1,2,3,4,9,10,11,12] (λE L w'=>L=(50,.bool p50)::E/\∃κ',Stp [] K42 w41 κ' w') [(5,2),(6,2),(7,2),(8,1),(9,2)] [] tv ?_ ?_
 revert h
 cases ht68:x43
 refine JF λh=>Jn 3 R<|Jz3 R<|Jn 1 R ?_
 cases h
 exact Jv1 _ tv ⟨R,_,Jj3⟩<|KM R
 refine JT λh=>Jn 2 R<|Ob h λx48 hx48 h=>Jc3 R g3 hx48 U178 Z4<|Jb3 R I4 ((g3.stp<|T6 S3 S7 S11 S15 S30 S43).gBool hx48)<|Jn 1 R ?_
 cases h
 exact Jv1 _ tv ⟨R,_,Jj3⟩<|KM R
 rintro _ w70 _ ⟨rfl,K71,S72⟩
 have h:=hK67
 refine Jd<|Ob h λq5 h hK73=>Jo3 [1,2,3,4,9,10,12] (λE L w'=>∃κ' am au,L=(11,.slice am q5.1.length au)::E/\Stp [3,5] K71 w70 κ' w'/\Oc E6 2 κ' w' 5 am au q5.1/\Oc Ep.bool 4 κ' w' 3 aa ab q5.2/\x19.length=q5.2.length) ?_ ?_
 revert h
 cases ht80:p50
 refine JF λh=>Jy R<|Js ?_
 cases h
 exact Jw1 _ ⟨K71,ai,ah,R,Jj3,(f31.stp<|S43.tr S72),(f32.stp<|S43.tr S72),hn33⟩<|KM R
 refine JT λh=>Jx R<|Jg3 [2,2,2,1] 2 R<|Ob h λx53 hx53 h=>Jf R (Jf2 f32.rdc hx53 U178 Z4 R R hn33 R)<|Ob h λy387 hy387 h=>Jk1 (κ:=K71) (E:=Ep.bool) 3 [] R R R R R R R R Z4 R R R R (f32.stp<|S43.tr S72) hy387 λw82 K83 S84 f85=>Tv<|?_
 have hn86:x19.length=y387.length:=hn33.trans (Jt2 hy387).2.2.2.symm
 refine Jd<|Jh3 [2,2,1,1,2] 2 R<|Jw3 (κ:=K83) (E:=E6) 6 [] (parts:=[(0,.tmp 55)]) (cells:=[vi v12]) (xs:=([v12]:List Int)) R Y37 bG R ⟨[vi v12],[],Zl K83 w82 [],Zl K83 w82 [],R,Zl.sp (l1:=[]) (l2:=[]) R,Zl.sr (l1:=[]) (l2:=[]),R,R⟩ λaO aN w87 K88 S89 f90=>Tv<|Ob h λx57 hx57 h=>Jy3 (κ:=K88) (E:=E6) 5 [] R Y37 bG R (f31.stp<|T4 S43 S72 S84 S89) (Sl.srcP (bP _) f90.rdc) bI hx57 R λaL aJ w92 K93 S94 f95=>Tv<|Jc 1 R ?_
 cases h
 exact Jw1 _ ⟨K93,aL,aJ,R,(T3 S84 S89 S94).wk R,f95,(f85.stp<|S89.tr S94),hn86⟩<|KM R
 rintro _ w74 ⟨K75,am,au,rfl,S76,f77,f78,hn79⟩
 have h:=hK73
 refine Jz<|Jp<|Jf3 R ?_
 have hw17:yC .i64 (v12+1)=v12+1:=wr1 hj17 (Jm2 hc17) hN17
 rw[hw17]
 have hc17:=Jm2 hc17
 cases h
 exact Jz1 λa ha=>⟨k,_,Ja3 _,⟨K75,v12+1,(q5.1,q5.2,q4),am,au,R,(T4 S30 S43 S72 S76).wk R,f77,f78,hn79,(f44.stp<|S72.tr S76),hn45,by omega,by omega,hk38⟩,(ha.mm R)⟩
 rintro _ w20 ⟨K21,s3,ao,aq,rfl,S22,f23,f24,hn25,f26,hn27,rfl⟩
 have h:=yI hK18
 refine Jp<|Jq<|Je3 R<|Ob h λq7 hq102 hK101=>?_
 clear h
 refine Jo3 [9] (λE L w'=>∃κ',∃s8:(List Int)×Int×(List Bool)×(List Int),∃aG az,L=E/\Stp [3,4,5] K21 w20 κ' w'/\Oc E6 2 κ' w' 5 aG az s8.1/\Oc Ep.bool 4 κ' w' 3 aa ab s8.2.2.1/\x19.length=s8.2.2.1.length/\Oc E6 2 κ' w' 4 ac ad s8.2.2.2/\x22.length=s8.2.2.2.length/\q7=yD s8) ?_ ?_
 refine Jv<|Jp3 [1,2,4,9,10] (λk E L w'=>∃κ',∃s6:(List Int)×Int×(List Bool)×(List Int),∃ak aj,L=(11,.slice ak s6.1.length aj)::(13,vi s6.2.1)::E/\Stp [3,4,5] K21 w20 κ' w'/\Oc E6 2 κ' w' 5 ak aj s6.1/\Oc Ep.bool 4 κ' w' 3 aa ab s6.2.2.1/\x19.length=s6.2.2.1.length/\Oc E6 2 κ' w' 4 ac ad s6.2.2.2/\x22.length=s6.2.2.2.length/\ca (fI p0 p1 p2) k s6=some q7) ⟨_,_,⟨K21,(s3.1,(0:Int),s3.2.1,s3.2.2),ao,aq,R,Jj3,f23,f24,hn25,f26,hn27,hq102⟩,(KM R)⟩ ?_
 rintro k _ w111 ⟨K112,s6,ak,aj,rfl,S113,f114,f115,hn116,f117,hn118,h⟩
 rcases k with _ | k
 cases h
 obtain⟨o100,h,hk119⟩:=BI h;unfold fI at h
 refine Jq<|Jg3 [2,2,2,2] 2 R<|Jn3 R U37 R R<|Jb 1 R ?_
 revert h
 cases ht120:decide (s6.2.1<(s6.1.length:Int))
 refine JF λh=>Jy R<|Jc1<|Jt<|Jt ?_
 cases h
 have h:=hk119
 refine Jb1 ?_
 cases h
 exact Jw1 _ ⟨K112,(s6.1,s6.2.1,s6.2.2.1,s6.2.2.2),ak,aj,R,S113.wk R,f114,f115,hn116,f117,hn118,R⟩<|KM R
 refine JT λh=>Jx R<|Js<|Jp<|Jq<|Jv<|Jg3 [2,2,2,1,2] 2 R<|Ob h λx66 hx66 h=>Jc3 R f114.rdc hx66 U37 Z2<|Jb3 R I2 (f114.rdc.gInt hx66)<|Jb 1 R<|Je3 R<|Ob h λq10 hq123 hK122=>?_
 clear h
 refine Jo3 [1,2,4,9,10,13] (λE L w'=>∃κ',∃s11:(List Int)×Int×(List Bool)×(List Int),∃al ar,L=(11,.slice al s11.1.length ar)::E/\Stp [3,4,5] K112 w111 κ' w'/\Oc E6 2 κ' w' 5 al ar s11.1/\Oc Ep.bool 4 κ' w' 3 aa ab s11.2.2.1/\x19.length=s11.2.2.1.length/\Oc E6 2 κ' w' 4 ac ad s11.2.2.2/\x22.length=s11.2.2.2.length/\q10=yD s11) ?_ ?_
 refine Jv<|Jp3 [1,2,4,9,10,13,14] (λk E L w'=>∃κ',∃s9:(List Int)×Int×(List Bool)×(List Int),∃af ae,L=(11,.slice af s9.1.length ae)::(15,vi s9.2.1)::E/\Stp [3,4,5] K112 w111 κ' w'/\Oc E6 2 κ' w' 5 af ae s9.1/\Oc Ep.bool 4 κ' w' 3 aa ab s9.2.2.1/\x19.length=s9.2.2.1.length/\Oc E6 2 κ' w' 4 ac ad s9.2.2.2/\x22.length=s9.2.2.2.length/\ca (dv p0 p1 p2 x66) k s9=some q10) ⟨_,_,⟨K112,(s6.1,(0:Int),s6.2.2.1,s6.2.2.2),ak,aj,R,Jj3,f114,f115,hn116,f117,hn118,hq123⟩,(KM R)⟩ ?_
 rintro k _ w132 ⟨K133,s9,af,ae,rfl,S134,f135,f136,hn137,f138,hn139,h⟩
 rcases k with _ | k
 cases h
 obtain⟨o121,h,hk140⟩:=BI h;unfold dv at h
 refine Jq<|Jg3 [2,2,1,2,2,1,2,2] 1 R<|Jd3 R U210 R Z31 ?_
 have f141:=f4.stp (T6 S7 S11 S15 S22 S113 S134)
 refine Jb3 R I31 (f141.ld 3 R R)<|Jn 1 R<|Ob h λx72 hx72 h=>Jc3 R g0_3 hx72 U31 Z37 ?_
 have f142:=g0_3.stp (T7 S3 S7 S11 S15 S22 S113 S134)
 obtain⟨ax72,ux72,f143,hl144⟩:=f142.gSl hx72
 refine Jb3 R I37 hl144<|Jn3 R U37 R R<|Jb 1 R ?_
 revert h
 cases ht145:decide (s9.2.1<(x72.length:Int))
 refine JF λh=>Jy R<|Jc1<|Jt<|Jt ?_
 cases h
 have h:=hk140
 refine Jb1 ?_
 cases h
 exact Jw1 _ ⟨K133,(s9.1,s9.2.1,s9.2.2.1,s9.2.2.2),af,ae,R,S134.wk R,f135,f136,hn137,f138,hn139,R⟩<|KM R
 refine JT λh=>Jx R<|Js<|Jp<|Jq<|Jv<|Je [2,1,2,2,1,2,2,1,2] R<|Jd3 R U210 R Z31<|Jb3 R I31 (f141.ld 3 R R)<|Jn 1 R<|Ob h λx81 hx81 h=>Jc3 R f142 hx81 U31 Z37 ?_
 obtain⟨ax81,ux81,f146,hl147⟩:=f142.gSl hx81
 refine Jb3 R I37 hl147<|Jn 1 R<|Ob h λx84 hx84 h=>Jc3 R f146 hx84 U37 Z2<|Jb3 R I2 (f146.gInt hx84)<|Jb 1 R<|Jq<|Jg3 [2,2,2,1,2,2,2,2,2,1,2,2,1,2,2,1,2,2] 2 R<|Ob h λx88 hx88 h=>Jc3 R g1 hx88 U178 Z4<|Jb3 R I4 ((g1.stp<|T7 S3 S7 S11 S15 S22 S113 S134).gBool hx88)<|Jn 2 R<|Ob h λp96 h hK149=>Jq3 [1,2,4,9,10,11,13,14,15,16] (λE L w'=>L=(96,.bool p96)::E/\∃κ',Stp [] K133 w132 κ' w') [(6,2),(7,2),(8,2),(9,1),(10,2)] [(11,2),(12,1),(13,2),(14,2),(15,1),(16,2),(17,2)] tv ?_ ?_
 revert h
 cases ht150:(!x88)
 refine JF λh=>Jn 2 R<|Ob h λx94 hx94 h=>Jf R (Jf2 f136.rdc hx94 U178 Z4 R R hn137 R)<|Jb3 R I4 (f136.rdc.gBool hx94)<|Jn 1 R ?_
 cases h
 exact Jv1 _ tv ⟨R,_,Jj3⟩<|KM R
 refine JT λh=>Jn 3 R<|Jz3 R<|Jn 1 R ?_
 cases h
 exact Jv1 _ tv ⟨R,_,Jj3⟩<|KM R
 rintro _ w151 _ ⟨rfl,K152,S153⟩
 have h:=hK149
 refine Jn 1 R<|Ob h λp103 h hK154=>Jq3 [1,2,4,9,10,11,13,14,15,16] (λE L w'=>L=(103,.bool p103)::E/\∃κ',Stp [] K152 w151 κ' w') [(12,1),(13,2),(14,2),(15,1),(16,2),(17,2)] [] tv ?_ ?_
 revert h
 cases ht155:p96
 have S002:=(T8 S3 S7 S11 S15 S22 S113 S134 S153)
 refine JF λh=>Jb4 tv R (Jc4 (haE (f141.stp S153).cells) I210 Z210 R)<|Jn 2 R<|Ob h λx101 hx101 h=>Jr3 R C269 (oH (κ:=Mk K152) (p0:=p0) (Ji3<|g0_0.stp S002) (Ji3<|g0_1.stp S002) (Ji3<|g0_2.stp S002) (Ji3<|f142.stp S153) (Ji3<|g0_4.stp S002) hx101) ?_
 rintro _ w162 ⟨k163,rfl,e164⟩
 obtain⟨K165,S166,m167⟩:=Ji e164 6 R
 refine Tv<|Jn 2 R ?_
 cases h
 exact Jv1 _ tv ⟨R,_,S166.wk R⟩<|KM R
 refine JT λh=>Jz3 R<|Jn 2 R<|Jz3 R<|Jn 2 R ?_
 cases h
 exact Jv1 _ tv ⟨R,_,Jj3⟩<|KM R
 rintro _ w169 _ ⟨rfl,K170,S171⟩
 have h:=hK154
 refine Jd ?_
 revert h
 cases ht172:p103
 refine JF λh=>Jy R<|Js<|Jp<|Jg3 [2,2,2,1,2,2,1] 2 R<|Ob h λx106 hx106 h=>Jf R (Jf2 f138.rdc hx106 U37 Z2 R R hn139 R) ?_
 have f176:=f138.stp (S153.tr S171)
 refine Jb3 R I2 (f176.rdc.gInt hx106)<|Jn 1 R<|Ob h λx109 hx109 h=>Jf R (Jf2 f176.rdc hx109 U37 Z2 R R hn139 R)<|Ob h λy390 hy390 h=>Jk1 (κ:=K170) (E:=E6) 4 [] R R R R R R R R Z2 R R R R f176 hy390 λw177 K178 S179 f180=>Tv<|?_
 have hn181:x22.length=y390.length:=hn139.trans (Jt2 hy390).2.2.2.symm
 refine Jd<|Je [2,1,2,2,1,2,2,2,2,2,2,1,2,2] R<|Jd3 R U210 R Z37<|Jb3 R I37 ((f141.stp<|T3 S153 S171 S179).ld 0 R R)<|Jn 1 R<|Ob h λx113 hx113 h=>Jc3 R g0_0 hx113 U37 Z2<|Jb3 R I2 ((g0_0.stp<|T10 S3 S7 S11 S15 S22 S113 S134 S153 S171 S179).gInt hx113)<|Jn 3 R<|Ob h λp123 h hK184=>Jq3 [1,2,4,9,10,11,13,14,15,16] (λE L w'=>L=(123,.bool p123)::E/\∃κ',Stp [] K178 w177 κ' w') [(8,2),(9,2),(10,2),(11,1),(12,2),(13,2)] [] tv ?_ ?_
 revert h
 cases ht185:(x113==p2)
 refine JF λh=>Jn 2 R<|Ob h λx120 hx120 h=>Jf R (Jf2 f180.rdc hx120 U37 Z2 R R hn181 R)<|Jb3 R I2 (f180.rdc.gInt hx120)<|Jn 2 R ?_
 cases h
 exact Jv1 _ tv ⟨R,_,Jj3⟩<|KM R
 refine JT λh=>Jn 3 R<|Jz3 R<|Jn 2 R ?_
 cases h
 exact Jv1 _ tv ⟨R,_,Jj3⟩<|KM R
 rintro _ w186 _ ⟨rfl,K187,S188⟩
 have h:=hK184
 refine Jd<|Ob h λq12 h hK189=>Jo3 [1,2,4,9,10,13,14,15] (λE L w'=>∃κ' ap an,L=(11,.slice ap q12.1.length an)::E/\Stp [3,5] K187 w186 κ' w'/\Oc E6 2 κ' w' 5 ap an q12.1/\Oc Ep.bool 4 κ' w' 3 aa ab q12.2/\x19.length=q12.2.length) ?_ ?_
 revert h
 cases ht196:p123
 refine JF λh=>Jy R<|Js ?_
 cases h
 have S003:=(T4 S153 S171 S179 S188)
 exact Jw1 _ ⟨K187,af,ae,R,Jj3,(f135.stp S003),(f136.stp S003),hn137⟩<|KM R
 refine JT λh=>Jx R<|Jg3 [2,2,2,1] 2 R<|Ob h λx126 hx126 h=>Jf R (Jf2 f136.rdc hx126 U178 Z4 R R hn137 R)<|Ob h λy391 hy391 h=>Jk1 (κ:=K187) (E:=Ep.bool) 3 [] R R R R R R R R Z4 R R R R (f136.stp<|T4 S153 S171 S179 S188) hy391 λw198 K199 S200 f201=>Tv<|?_
 have hn202:x19.length=y391.length:=hn137.trans (Jt2 hy391).2.2.2.symm
 refine Jd<|Jh3 [2,2,1,1,2] 2 R<|Jw3 (κ:=K199) (E:=E6) 6 [] (parts:=[(0,.tmp 128)]) (cells:=[vi x84]) (xs:=([x84]:List Int)) R Y37 bG R ⟨[vi x84],[],Zl K199 w198 [],Zl K199 w198 [],R,Zl.sp (l1:=[]) (l2:=[]) R,Zl.sr (l1:=[]) (l2:=[]),R,R⟩ λaP aQ w203 K204 S205 f206=>Tv<|Ob h λx130 hx130 h=>Jy3 (κ:=K204) (E:=E6) 5 [] R Y37 bG R (f135.stp<|T6 S153 S171 S179 S188 S200 S205) (Sl.srcP (bP _) f206.rdc) bI hx130 R λaI aK w208 K209 S210 f211=>Tv<|Jc 1 R ?_
 cases h
 exact Jw1 _ ⟨K209,aI,aK,R,(T3 S200 S205 S210).wk R,f211,(f201.stp<|S205.tr S210),hn202⟩<|KM R
 rintro _ w190 ⟨K191,ap,an,rfl,S192,f193,f194,hn195⟩
 have h:=hK189
 refine Jz<|Jp<|Jf3 R ?_
 cases h
 exact Jz1 λa ha=>⟨k,_,Ja3 _,⟨K191,(q12.1,((IntKind.i64.wrap<|s9.2.1+1):Int),q12.2,y390),ap,an,R,(T6 S134 S153 S171 S179 S188 S192).wk R,f193,f194,hn195,(f180.stp<|S188.tr S192),hn181,hk140⟩,(ha.mm R)⟩
 refine JT λh=>Jx R<|Jc1<|Jt<|Jb1<|Jp<|Jf3 R ?_
 cases h
 have S004:=(S153.tr S171)
 exact Jz1 λa ha=>⟨k,_,Ja3 _,⟨K170,(s9.1,((IntKind.i64.wrap<|s9.2.1+1):Int),s9.2.2.1,s9.2.2.2),af,ae,R,(T3 S134 S153 S171).wk R,(f135.stp S004),(f136.stp S004),hn137,(f138.stp S004),hn139,hk140⟩,(ha.mm R)⟩
 rintro _ w124 ⟨K125,s11,al,ar,rfl,S126,f127,f128,hn129,f130,hn131,rfl⟩
 have h:=yI hK122
 refine Jz<|Jp<|Jf3 R ?_
 cases h
 exact Jz1 λa ha=>⟨k,_,Ja3 _,⟨K125,(s11.1,((IntKind.i64.wrap<|s6.2.1+1):Int),s11.2.2.1,s11.2.2.2),al,ar,R,(S113.tr S126).wk R,f127,f128,hn129,f130,hn131,hk119⟩,(ha.mm R)⟩
 rintro _ w103 ⟨K104,s8,aG,az,rfl,S105,f106,f107,hn108,f109,hn110,rfl⟩
 have h:=yI hK101
 refine Jp<|Je3 R<|Ju<|Ja2 (l:=[.tmp 8]) V272 (Jp2 R R) R ?_
 cases h
 exact⟨(λb=>ren [(3,2)]<|K104 b),aa,ab,(by simp only[hn108]),((hE.stp<|T6 S3 S7 S11 S15 S22 S105).map (ren [(3,2)]) R R),(f107.map (ren [(3,2)]) R R)⟩
theorem rf {ac ab ad aa}{p0:Word}{p1:Int}(g0_0:Rd (Rp.int .i64) κ w 0 ac ab p0.Stem) (g0_1:Rd (Rp.int .i64) κ w 0 ad aa p0.Loop){r:Bool}(h:lh p0 p1=some r):Ret Tryz.prog 151 [.agg #[.slice ac p0.Stem.length ab,.slice ad p0.Loop.length aa],vi p1] w (Pvb κ w r):=by
 unfold lh at h
 refine Jk3 κ F151 R N151 R λhE=>Je [1,2] R<|Js3 (κ:=κ) 2 R λb2 w1 K2 S3 f4=>Tv<|Jb 1 R<|Jq<|Je [2,1,2,2,2,2,1,2,2,2,2,2,1,2,2,2] R<|Jd3 R U39 R Z37<|Jb3 R I37 (f4.ld 0 R R)<|Jn3 R U37 R R<|Jn 2 R<|Ob h λp14 h hK5=>Jq3 [1,2] (λE L w'=>L=(14,.bool p14)::E/\∃κ',Stp [] K2 w1 κ' w') [(5,2),(6,1),(7,2),(8,2),(9,2)] [(10,2),(11,2),(12,1),(13,2),(14,2),(15,2)] tv ?_ ?_
 revert h
 cases ht6:decide (600<(p0.Stem.length:Int))
 refine JF λh=>Jd3 R U39 R Z37<|Jb3 R I37 (f4.ld 1 R R)<|Jn3 R U37 R R<|Jn 2 R ?_
 cases h
 exact Jv1 _ tv ⟨R,_,Jj3⟩<|KM R
 refine JT λh=>Jn 1 R<|Jz3 R<|Jn 3 R ?_
 cases h
 exact Jv1 _ tv ⟨R,_,Jj3⟩<|KM R
 rintro _ w7 _ ⟨rfl,K8,S9⟩
 have h:=hK5
 refine Jn 1 R<|Ob h λp20 h hK10=>Jq3 [1,2] (λE L w'=>L=(20,.bool p20)::E/\∃κ',Stp [] K8 w7 κ' w') [(11,2),(12,1),(13,2),(14,2),(15,2)] [] tv ?_ ?_
 revert h
 cases ht11:p14
 refine JF λh=>Jd3 R U39 R Z37<|Jb3 R I37 ((f4.stp S9).ld 1 R R)<|Jn3 R U37 R R<|Jn 2 R ?_
 cases h
 exact Jv1 _ tv ⟨R,_,Jj3⟩<|KM R
 refine JT λh=>Jn 1 R<|Jz3 R<|Jn 3 R ?_
 cases h
 exact Jv1 _ tv ⟨R,_,Jj3⟩<|KM R
 rintro _ w13 _ ⟨rfl,K14,S15⟩
 have h:=hK10
 refine Jd ?_
 revert h
 cases ht16:p20
 refine JF λh=>Jy R<|Js<|Jp<|Je [2,1,2,1,2,2,1,2,1,2,2] R<|Jd3 R U39 R Z37 ?_
 have f18:=f4.stp (S9.tr S15)
 refine Jb3 R I37 (f18.ld 0 R R)<|Jn 1 R<|Ob h λx24 hx24 h=>Jr3 R C61 (eW (κ:=Mk K14) (Ji3<|g0_0.stp<|T3 S3 S9 S15) hx24) ?_
 rintro _ w20 ⟨k21,rfl,e22⟩
 obtain⟨K23,S24,m25⟩:=Ji e22 3 R
 refine Tv<|Jn 1 R<|Ob h λp30 h hK27=>Ju1 [(5,2),(6,1),(7,2),(8,1),(9,2)] [(10,2)] (λL w'=>L=[(30,.bool p30)]/\∃κ',Stp [] K23 w20 κ' w') tv ?_ ?_
 revert h
 cases ht28:x24
 refine JF λh=>Jn 1 R<|Jz3 R<|Jn 1 R<|Jz3 R<|Jn 1 R ?_
 cases h
 exact Jv1 _ tv ⟨R,_,Jj3⟩<|KM R
 refine JT λh=>Jd3 R U39 R Z37<|Jb3 R I37 ((f18.stp S24).ld 1 R R)<|Jn 1 R<|Ob h λx29 hx29 h=>Jr3 R C61 (eW (κ:=Mk K23) (Ji3<|g0_1.stp<|T4 S3 S9 S15 S24) hx29) ?_
 rintro _ w31 ⟨k32,rfl,e33⟩
 obtain⟨K34,S35,m36⟩:=Ji e33 5 R
 refine Tv<|Jn 1 R ?_
 cases h
 exact Jv1 _ tv ⟨R,_,S35.wk R⟩<|KM R
 rintro _ w38 _ ⟨rfl,K39,S40⟩
 have h:=hK27
 refine Jb 1 R<|Ju<|Ja2 (l:=[.tmp 4]) V151 (Jp2 R R) R ?_
 cases h
 exact⟨K39,R,(hE.stp<|T5 S3 S9 S15 S24 S40)⟩
 refine JT λh=>Jx R<|Je3 R<|Ju<|Jw<|Ja2 (l:=[.tmp 4]) V151 (Jp2 R R) R ?_
 cases h
 exact⟨K14,R,(hE.stp<|T3 S3 S9 S15)⟩
end Go.Proofs.YtleekpaohfpooaaGreat
