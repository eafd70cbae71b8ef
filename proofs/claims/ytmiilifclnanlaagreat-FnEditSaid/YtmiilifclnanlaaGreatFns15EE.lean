/- The walks, part 15. By program. -/
import Derived.Test.YtmiilifclnanlaaGreatFns14EE
set_option linter.unusedVariables false
set_option linter.unusedSimpArgs false
namespace Go.Proofs.YtmiilifclnanlaaGreat
open Go Go.Wk Go.Proofs
set_option maxRecDepth 100000
set_option maxHeartbeats 1000000
theorem s_DrawEdited_ok {w:World}{κ:Col}{a0 u0}{p0:(List Int)}(g0:Rd (Rp.int .u8) κ w 0 a0 u0 p0){r:Parity×Edit}(h:s_DrawEdited p0=some r):Ret Tryz.prog 19 [.slice a0 p0.length u0] w (fun v w'=>∃(κ':Col) (ra0:Option Addr) (ru0:Nat) (ra1:Option Addr) (ru1:Nat) (ra2:Option Addr) (ru2:Nat),v= .tuple #[.agg #[.slice ra0 r.1.Arena.Owner.length ru0,.slice ra1 r.1.Arena.Next.length ru1,.slice ra2 r.1.Prio.length ru2],.agg #[vi r.2.Kind,vi r.2.V,vi r.2.N]]∧Ent κ w κ' w'∧Oc E6 2 κ' w' 2 ra0 ru0 r.1.Arena.Owner∧Oc (Ep.own E6 2) 22 κ' w' 3 ra1 ru1 r.1.Arena.Next∧Oc E6 2 κ' w' 4 ra2 ru2 r.1.Prio):=by
 unfold s_DrawEdited at h
 refine Ret.enter F19 R N19 R ?_
 dsimp only[envOf]
 have hE:=Ent.refl κ w
 refine Je [1,1] R (Jg1 (κ:=κ) 2 R R R R R X39 R fun b2 w1 K2 S3 f4=>⟨tv,Jg1 (κ:=K2) 3 R R R R R X42 R fun b3 w5 K6 S7 f8=>⟨tv,Jd (Je [2,1,2] R (Jn 1 R (Ob h fun x6 hx6 h=>Jh R R R C52 (s_l1New_ok (κ:=fun b=>mp [] 1 (K6 b)) (Jl2 (g0.stp (S3.tr S7) R R) (mp [] 1) R R) hx6) ?_)))⟩⟩)
 rintro _ w10 ⟨k11,ai,ah,b6,rfl,e12,f13,f14⟩
 obtain⟨K15,S16,m17,z18⟩:=Jj e12 4 R
 refine⟨tv,Jb 1 R (Je [2,1,2,2,1,1] R (Jn 1 R (Ob h fun x8 hx8 h=>Jh R R R C53 (s_l32DrawPair_ok (κ:=fun b=>mp [(7,2)] 0 (K15 b)) (p0:=x6) (Jl2 (f13.mx z18) (mp [(7,2)] 0) R R) ((f14.mx m17 R (R:4+3=7)).map (mp [(7,2)] 0) R R) hx8) ?_)))⟩
 rintro _ w21 ⟨k22,ad,ac,aa,ab,af,ae,rfl,e23,f24,f25,f26,f27⟩
 obtain⟨K28,S29,m30⟩:=Ji e23 8 R
 refine⟨tv,Jn 2 R (Jj1 (κ:=K28) 2 (vc:=[.slice ad x8.1.Arena.Owner.length ac,.slice aa x8.1.Arena.Next.length ab,.slice af x8.1.Prio.length ae]) R R R R R R R Z39 R R (f4.stp (S7.tr (S16.tr S29)) R R) R fun w37 S38 f39=>⟨tv,Jj1 (κ:=K28) 3 (vc:=[vi x8.2.1.Kind,vi x8.2.1.V,vi x8.2.1.N]) R R R R R R R Z42 R R (f8.stp (S16.tr (S29.tr S38)) R R) R fun w41 S42 f43=>⟨tv,Jd (Ju (Ja2 (l:=[.cell 2 39,.cell 3 42]) V19 (res_cellA R (f39.stp S42 R R) I39 Z39 R (res_cellA R f43 I42 Z42 R R)) R ?_))⟩⟩)⟩
 cases h
 exact⟨(fun b=>ren [(11,2),(12,3),(13,4)] (K28 b)),ad,ac,aa,ab,af,ae,R,((hE.stp (S3.tr (S7.tr (S16.tr (S29.tr (S38.tr S42))))) R R).map (ren [(11,2),(12,3),(13,4)]) R R),(((f24.mx (no_int _) m30 R (R:8+3=11)).stp (S38.tr S42) R R).map (ren [(11,2),(12,3),(13,4)]) R R),(((f25.mx (no_own (no_int _) _) m30 R (R:8+4=12)).stp (S38.tr S42) R R).map (ren [(11,2),(12,3),(13,4)]) R R),(((f26.mx (no_int _) m30 R (R:8+5=13)).stp (S38.tr S42) R R).map (ren [(11,2),(12,3),(13,4)]) R R)⟩
theorem s_PlanFrom_ok {w:World}{κ:Col}{ai ah af aj ak ae}{p0:Parity}{a1 u1}{p1:(List Int)}(g0_0_0:Rd (Rp.int .i64) κ w 0 ai ah p0.Arena.Owner) (g0_0_1:Rd (Rp.sl (Rp.int .i64)) κ w 0 af aj p0.Arena.Next) (g0_1:Rd (Rp.int .i64) κ w 0 ak ae p0.Prio) (g1:Rd (Rp.int .i64) κ w 0 a1 u1 p1){r:Answer×Bool}(h:s_PlanFrom p0 p1=some r):Ret Tryz.prog 58 [.agg #[.slice ai p0.Arena.Owner.length ah,.slice af p0.Arena.Next.length aj,.slice ak p0.Prio.length ae],.slice a1 p1.length u1] w (fun v w'=>∃(κ':Col) (ra0:Option Addr) (ru0:Nat) (ra1:Option Addr) (ru1:Nat),v= .tuple #[.agg #[.slice ra0 r.1.Won.length ru0,.slice ra1 r.1.Plan.length ru1],.bool r.2]∧Ent κ w κ' w'∧Oc E6 2 κ' w' 2 ra0 ru0 r.1.Won∧Oc E6 2 κ' w' 3 ra1 ru1 r.1.Plan):=by
 unfold s_PlanFrom at h
 refine Ret.enter F58 R N58 R ?_
 dsimp only[envOf]
 have hE:=Ent.refl κ w
 refine Je [1,1,2] R (Jf1 (κ:=κ) 2 R R R R R R R fun b2 w1 K2 S3 f4=>⟨tv,Jg1 (κ:=K2) 3 R R R R R X34 R fun b4 w5 K6 S7 f8=>⟨tv,Jb 1 R (Jq (Je [1,2,1,2] R ?_))⟩⟩)
 have f9:=f4.stp S7 R R
 refine Jl tv R R R R (Jd2 (cs:=[.slice ai p0.Arena.Owner.length ah,.slice af p0.Arena.Next.length aj,.slice ak p0.Prio.length ae]) I39 Z39 R R R (haE f9.cells)) (Jn 1 R (Ob h fun x15 hx15 h=>?_))
 have f10:=g0_0_0.stp (S3.tr S7) R R
 have f11:=g0_0_1.stp (S3.tr S7) R R
 have f12:=g0_1.stp (S3.tr S7) R R
 have f13:=g1.stp (S3.tr S7) R R
 refine Jh R R R C96 (s_KeepsWon_ok (κ:=fun b=>mp [] 0 (K6 b)) (p0:=p0) (Jl2 f10 (mp [] 0) R R) (Jl2 f11 (mp [] 0) R R) (Jl2 f12 (mp [] 0) R R) (Jl2 f13 (mp [] 0) R R) hx15) ?_
 rintro _ w14 ⟨k15,rfl,e16⟩
 obtain⟨K17,S18,m19⟩:=Ji e16 4 R
 refine⟨tv,Jb 1 R ?_⟩
 revert h
 cases ht21:(!x15)
 refine JF fun h=>Jy R (Js (Jp (Je [1,1,2] R ?_)))
 have f27:=f9.stp S18 R R
 refine Jl tv R R R R (Jd2 (cs:=[.slice ai p0.Arena.Owner.length ah,.slice af p0.Arena.Next.length aj,.slice ak p0.Prio.length ae]) I39 Z39 R R R (haE f27.cells)) (Ob h fun x19 hx19 h=>?_)
 have f28:=f10.stp S18 R R
 have f29:=f11.stp S18 R R
 have f30:=f12.stp S18 R R
 refine Jh R R R C97 (s_l7Won_ok (κ:=fun b=>mp [] 0 (K17 b)) (p0:=p0) (Jl2 f28 (mp [] 0) R R) (Jl2 f29 (mp [] 0) R R) (Jl2 f30 (mp [] 0) R R) hx19) ?_
 rintro _ w31 ⟨k32,aa,ab,rfl,e33,f34⟩
 obtain⟨K35,S36,m37⟩:=Ji e33 6 R
 refine⟨tv,?_⟩
 have f39:=f34.mx (no_int _) m37 R (R:6+2=8)
 refine Jb 1 R (Je [1,1,1,1] R ?_)
 have f40:=f27.stp S36 R R
 refine Jl tv R R R R (Jd2 (cs:=[.slice ai p0.Arena.Owner.length ah,.slice af p0.Arena.Next.length aj,.slice ak p0.Prio.length ae]) I39 Z39 R R R (haE f40.cells)) (Ob h fun x21 hx21 h=>?_)
 have f41:=f28.stp S36 R R
 refine Jh R R R C98 (s_l7Of_ok (κ:=fun b=>mp [] 1 (K35 b)) (p0:=p0) (Jl2 f41 (mp [] 1) R R) (Jl2 (f29.stp S36 R R) (mp [] 1) R R) (Jl2 (f30.stp S36 R R) (mp [] 1) R R) hx21) ?_
 rintro _ w44 ⟨k45,av,aw,ar,au,az,ay,aA,ax,ad,ac,rfl,e46,f47,f48,f49,f50,f51⟩
 obtain⟨K52,S53,m54,z55⟩:=Jj e46 9 R
 refine⟨tv,Jg1 (κ:=K52) 16 R R R R R X111 R fun b7 w61 K62 S63 f64=>⟨tv,Jj1 (κ:=K62) 16 (vc:=[.slice av x21.owner.length aw,.slice ar x21.prio.length au,.slice az x21.next.length ay,.slice aA x21.prev.length ax,.slice ad x21.pick.length ac]) R R R R R R R Z111 R R f64 R fun w65 S66 f67=>⟨tv,Jd (Jq (Je [2] R (Jb 1 R ?_)))⟩⟩⟩
 have hN68:(p1.length:Int)≤9223372036854775807:=f13.len_le
 refine Ob h fun q2 hq70 hK69=>?_
 clear h
 refine Jx1 (fun L w'=>∃κ',∃s3:(List Int),L=[(2,.pointer (some ⟨b2,0,none⟩)),(4,.pointer (some ⟨b4,0,none⟩)),(6,.slice aa x19.length ab),(7,.pointer (some ⟨b7,0,none⟩))]∧Stp [15] K62 w65 κ' w'∧Oc E6 2 κ' w' 15 ad ac s3∧x21.pick.length=s3.length∧q2=Sum.inr s3) ?_ ?_
 refine Jv (Jy1 (fun k L w'=>∃κ' v8,∃s1:(List Int),L=[(1,.slice a1 p1.length u1),(2,.pointer (some ⟨b2,0,none⟩)),(4,.pointer (some ⟨b4,0,none⟩)),(6,.slice aa x19.length ab),(7,.pointer (some ⟨b7,0,none⟩)),(8,vi v8)]∧Stp [15] K62 w65 κ' w'∧Oc E6 2 κ' w' 15 ad ac s1∧x21.pick.length=s1.length∧0≤v8∧Int.toNat ((p1.length:Int)-v8)=k∧cntM (s_PlanFrom_b0 p0 p1 x19) k v8 s1=some q2) ⟨_,_,⟨K62,0,(x21.pick:(List Int)),R,(Jx2 _ _).wk R,((f51.mx (no_int _) m54 R (R:9+6=15)).stp (S63.tr S66) R R),R,(by decide),(by simp),hq70⟩,(KM R)⟩ ?_)
 rintro k _ w76 ⟨K77,v8,s1,rfl,S78,f79,hn80,hj68,hJ68,h⟩
 rcases k with _ | k
 have hk82:=h;obtain⟨o68,h⟩:=ex_eq (Sum.inr (Sum.inl s1):(Answer×Bool)⊕(((List Int))⊕((List Int))))
 have hc68:decide (v8<(p1.length:Int))=false:=Jo2 (by omega)
 refine Jq (Je [2,2,2,2] R (Jn 2 R (Jf R (Je2 U22 R R) (Jb 1 R (Jw2 R hc68 (Jc1 (Jt (Jt ?_))))))))
 cases h
 have h:=hk82
 refine Jb1 ?_
 cases h
 exact Jw1 _ ⟨K77,(s1:(List Int)),R,S78.wk R,f79,hn80,R⟩ (KM R)
 obtain⟨o68,h,hk82⟩:=BI h;unfold s_PlanFrom_b0 at h
 have hc68:decide (v8<(p1.length:Int))=true:=Jn2 (by omega)
 refine Jq (Je [2,2,2,2] R (Jn 2 R (Jf R (Je2 U22 R R) (Jb 1 R (Jv2 R hc68 (Js (Jp (Jq (Jv (Jq (Jq (Js1 (κ:=K77) [0,2,8] none [(0,2),(1,2),(2,2),(3,0),(4,2),(5,2),(6,2),(7,2),(8,2),(10,2),(11,2),(13,2),(9,0),(12,0),(14,2),(15,0),(16,2),(17,2)] [] (by kernel_rfl) (by kernel_rfl) fun w84 S83=>Jn 2 R (Ob h fun x30 hx30 h=>Jf R (Jf2 f13 hx30 U22 Z2 R R R R) ?_)))))))))))))
 have f85:=f13.stp (S18.tr (S36.tr (S53.tr (S63.tr (S66.tr (S78.tr S83)))))) R R
 refine Jg R (Jc2 I2 R R (hvC (f85.gInt hx30) R)) (Jn 2 R (Ob h fun p45 h hK86=>Ju1 [(6,2),(7,2),(8,2),(10,2),(11,2),(13,2),(9,0),(12,0),(14,2),(15,0),(16,2),(17,2)] [] (fun L w'=>L=[(1,.slice a1 p1.length u1),(2,.pointer (some ⟨b2,0,none⟩)),(4,.pointer (some ⟨b4,0,none⟩)),(6,.slice aa x19.length ab),(7,.pointer (some ⟨b7,0,none⟩)),(8,vi v8),(45,.bool p45)]∧∃κ',Stp [] K77 w84 κ' w') (Cl.refl _ _ _) ?_ ?_))
 revert h
 cases ht87:(x30 !=(-1))
 refine JF fun h=>Jn 6 R (Je1 R R R R (Je1 R R R R (Jn 1 R (Je1 R R R R (Jn 2 R ?_)))))
 cases h
 exact Jv1 _ (Cl.refl _ _ _) ⟨R,_,(Jx2 _ _).wk R⟩ (KM R)
 have S001:=(S53.tr (S63.tr (S66.tr (S78.tr S83))))
 refine JT fun h=>Jn 2 R (Ob h fun x36 hx36 h=>Jf R (Jf2 f39.rdc hx36 U22 Z2 R R R R) (Jf R (Jb2 U39 R Z37 R R) (Jf R (Jb2 U37 R Z22 R R) (Jn 1 R (Jg R (Jc2 I2 R R (hvC ((f39.stp S001 R R).rdc.gInt hx36) R)) (Jg R (Jc2 I22 R R (hvC ((f40.stp S001 R R).ld 0 R R) R)) (Ob h fun x42 hx42 h=>Jf R (Jf2 f41 hx42 U22 Z2 R R R R) (Jg R (Jc2 I2 R R (hvC ((f41.stp S001 R R).gInt hx42) R)) (Jn 2 R ?_)))))))))
 cases h
 exact Jv1 _ (Cl.refl _ _ _) ⟨R,_,(Jx2 _ _).wk R⟩ (KM R)
 rintro _ w91 _ ⟨rfl,K92,S93⟩
 have h:=hK86
 refine Jt1 (Jd ?_)
 revert h
 cases ht94:p45
 refine JF fun h=>Jy R (Js (Jp (Js1 (κ:=K92) [0,16] none [(0,2),(2,2),(3,2),(4,2),(5,2),(1,0),(6,0),(7,2),(8,1)] [] (by kernel_rfl) (by kernel_rfl) fun w101 S100=>Jf R (Jb2 U111 R Z22 R R) (Jn 3 R (Ob h fun x52 hx52 h=>Jf R (Jf2 f85 hx52 U22 Z2 R R R R) (Jg R (Jc2 I22 R R (hvC ((f67.stp (S78.tr (S83.tr (S93.tr S100))) R R).ld 4 R R) R)) (Jg R (Jc2 I2 R R (hvC ((f85.stp (S93.tr S100) R R).gInt hx52) R)) (Ob h fun x54 hx54 h=>Jf R (Jf2 f79.rdc hx54 U22 Z2 R R hn80 R) (Ob h fun y222 hy222 h=>Jk1 (κ:=K92) (E:=E6) 15 [] R R R R R R R R Z2 R R R R (f79.stp (S83.tr (S93.tr S100)) R R) hy222 fun w105 K106 S107 f108=>⟨(S107.cl R),?_⟩)))))))))
 have hn109:x21.pick.length=y222.length:=hn80.trans (Jt2 hy222).2.2.2.symm
 refine Jt1 (Jo (Jz (Jp (Ja [2,2,2] R (Jc 3 R ?_)))))
 have hw68:IntKind.wrap .i64 (v8+1)=v8+1:=wr1 hj68 (Jm2 hc68) hN68
 rw[hw68]
 have hc68:=Jm2 hc68
 cases h
 exact Jz1 fun a ha=>⟨k,_,Ja3 _,⟨K106,v8+1,(y222:(List Int)),R,(S78.tr (S83.tr (S93.tr (S100.tr S107)))).wk R,f108,hn109,by omega,by omega,hk82⟩,(ha.mm R)⟩
 refine JT fun h=>Jx R (Je [2,1,2] R (Jf R (rn_build (parts:=[]) (cells:=[.slice none 0 0,.slice none 0 0]) R R (by kernel_rfl)) (Jj1 (κ:=K92) 3 (vc:=[.slice none 0 0,.slice none 0 0]) R R R R R R R Z34 R R (f8.stp (S18.tr (S36.tr (S53.tr (S63.tr (S66.tr (S78.tr (S83.tr S93))))))) R R) R fun w96 S97 f98=>⟨tv,Jb 1 R (Ju (Jw (Ja1 (Jw (Jw ?_)))))⟩)))
 cases h
 obtain rfl:=Option.some.inj hk82
 have h:=hK69
 dsimp only[aft]at h
 refine Ja1 (Jq2 (Jw (Ja2 (l:=[.cell 4 34,.tmp 5]) V58 (res_cellA R f98 I34 Z34 R (Jp2 R R)) R ?_)))
 cases h
 exact⟨K92,none,0,none,0,R,(hE.stp (S3.tr (S7.tr (S18.tr (S36.tr (S53.tr (S63.tr (S66.tr (S78.tr (S83.tr (S93.tr S97)))))))))) R R),Ow.nil,Ow.nil⟩
 rintro _ w71 ⟨K72,s3,rfl,S73,f74,hn75,rfl⟩
 have h:=hK69
 dsimp only[aft]at h
 refine Jp (Je [2,1,2] R (Jn 1 R (Ob h fun x56 hx56 h=>?_)))
 have f110:=f39.stp (S53.tr (S63.tr (S66.tr S73))) R R
 refine Jh R R R C99 (s_l7Region_ok (κ:=fun b=>mp [] 0 (K72 b)) (Jl2 f110.rdc (mp [] 0) R R) hx56) ?_
 rintro _ w111 ⟨k112,an,al,rfl,e113,f114⟩
 obtain⟨K115,S116,m117⟩:=Ji e113 17 R
 refine⟨tv,Jb 1 R (Je [2,1,2] R (Jn 1 R (Ob h fun x58 hx58 h=>?_)))⟩
 have f120:=f110.stp S116 R R
 refine Jh R R R C99 (s_l7Region_ok (κ:=fun b=>mp [] 0 (K115 b)) (Jl2 f120.rdc (mp [] 0) R R) hx58) ?_
 rintro _ w121 ⟨k122,am,ao,rfl,e123,f124⟩
 obtain⟨K125,S126,m127⟩:=Ji e123 20 R
 refine⟨tv,Jb 1 R (Jq (Je [2] R (Jb 1 R ?_)))⟩
 obtain⟨K132,S133,z134⟩:=fz_ex K125 w121 19
 obtain⟨K138,S139,z140⟩:=fz_ex K132 w121 22
 have hN142:(x19.length:Int)≤9223372036854775807:=f120.len_le
 refine Ob h fun q5 hq144 hK143=>?_
 clear h
 refine Jx1 (fun L w'=>∃κ',∃s6:(List Int),L=[(4,.pointer (some ⟨b4,0,none⟩)),(6,.slice aa x19.length ab),(7,.pointer (some ⟨b7,0,none⟩))]∧Stp [15,25] K138 w121 κ' w'∧Oc E6 2 κ' w' 15 ad ac s6∧x21.pick.length=s6.length∧q5=Sum.inr s6) ?_ ?_
 refine Jv (Jy1 (fun k L w'=>∃κ' v11,∃s4:(List Int),L=[(2,.pointer (some ⟨b2,0,none⟩)),(4,.pointer (some ⟨b4,0,none⟩)),(6,.slice aa x19.length ab),(7,.pointer (some ⟨b7,0,none⟩)),(9,.slice an x56.length al),(10,.slice am x58.length ao),(11,vi v11)]∧Stp [15,25] K138 w121 κ' w'∧Oc E6 2 κ' w' 15 ad ac s4∧x21.pick.length=s4.length∧0≤v11∧Int.toNat ((x19.length:Int)-v11)=k∧cntM (s_PlanFrom_b2 p0 x19 x21 x56 x58) k v11 s4=some q5) ⟨_,_,⟨K138,0,(s3:(List Int)),R,(Jx2 _ _).wk R,(f74.stp (S116.tr (S126.tr (S133.tr S139))) R R),hn75,(by decide),(by simp),hq144⟩,(KM R)⟩ ?_)
 rintro k _ w150 ⟨K151,v11,s4,rfl,S152,f153,hn154,hj142,hJ142,h⟩
 rcases k with _ | k
 have hk156:=h;obtain⟨o142,h⟩:=ex_eq (Sum.inr (Sum.inl s4):(Answer×Bool)⊕(((List Int))⊕((List Int))))
 have hc142:decide (v11<(x19.length:Int))=false:=Jo2 (by omega)
 refine Jq (Je [2,2,2,2] R (Jn 2 R (Jf R (Je2 U22 R R) (Jb 1 R (Jw2 R hc142 (Jc1 (Jt (Jt ?_))))))))
 cases h
 have h:=hk156
 refine Jb1 ?_
 cases h
 exact Jw1 _ ⟨K151,(s4:(List Int)),R,S152.wk R,f153,hn154,R⟩ (KM R)
 obtain⟨o142,h,hk156⟩:=BI h;unfold s_PlanFrom_b2 at h
 have hc142:decide (v11<(x19.length:Int))=true:=Jn2 (by omega)
 refine Jq (Je [2,2,2,2] R (Jn 2 R (Jf R (Je2 U22 R R) (Jb 1 R (Jv2 R hc142 (Js (Jp (Jq (Jv (Jq (Jq (Js1 (κ:=K151) [0,2,8,15,16] none [(0,2),(2,2),(1,0),(3,2),(4,0),(5,2),(6,2),(7,2),(8,2),(9,2),(11,2),(12,2),(14,2),(10,0),(13,0),(15,2),(16,0),(17,2),(18,2)] [] (by kernel_rfl) (by kernel_rfl) fun w158 S157=>Jf R (Jb2 U111 R Z22 R R) (Jn 1 R ?_)))))))))))))
 have f159:=f67.stp (S73.tr (S116.tr (S126.tr (S133.tr (S139.tr (S152.tr S157)))))) R R
 refine Jg R (Jc2 I22 R R (hvC (f159.ld 4 R R) R)) (Ob h fun x68 hx68 h=>Jf R (Jf2 f153.rdc hx68 U22 Z2 R R hn154 R) ?_)
 have f160:=f153.stp S157 R R
 refine Jg R (Jc2 I2 R R (hvC (f160.rdc.gInt hx68) R)) (Jn 2 R (Ob h fun p83 h hK161=>Ju1 [(7,2),(8,2),(9,2),(11,2),(12,2),(14,2),(10,0),(13,0),(15,2),(16,0),(17,2),(18,2)] [] (fun L w'=>L=[(2,.pointer (some ⟨b2,0,none⟩)),(4,.pointer (some ⟨b4,0,none⟩)),(6,.slice aa x19.length ab),(7,.pointer (some ⟨b7,0,none⟩)),(9,.slice an x56.length al),(10,.slice am x58.length ao),(11,vi v11),(83,.bool p83)]∧∃κ',Stp [] K151 w158 κ' w') (Cl.refl _ _ _) ?_ ?_))
 revert h
 cases ht162:decide (0≤x68)
 have S002:=(S53.tr (S63.tr (S66.tr (S73.tr (S116.tr (S126.tr (S133.tr (S139.tr (S152.tr S157)))))))))
 refine JF fun h=>Jn 2 R (Ob h fun x74 hx74 h=>Jf R (Jf2 f120.rdc hx74 U22 Z2 R R R R) (Jf R (Jb2 U39 R Z37 R R) (Jf R (Jb2 U37 R Z22 R R) (Jn 1 R (Jg R (Jc2 I2 R R (hvC ((f120.stp (S126.tr (S133.tr (S139.tr (S152.tr S157)))) R R).rdc.gInt hx74) R)) (Jg R (Jc2 I22 R R (hvC ((f40.stp S002 R R).ld 0 R R) R)) (Ob h fun x80 hx80 h=>Jf R (Jf2 f41 hx80 U22 Z2 R R R R) (Jg R (Jc2 I2 R R (hvC ((f41.stp S002 R R).gInt hx80) R)) (Jn 2 R ?_)))))))))
 cases h
 exact Jv1 _ (Cl.refl _ _ _) ⟨R,_,(Jx2 _ _).wk R⟩ (KM R)
 refine JT fun h=>Jn 6 R (Je1 R R R R (Je1 R R R R (Jn 1 R (Je1 R R R R (Jn 2 R ?_)))))
 cases h
 exact Jv1 _ (Cl.refl _ _ _) ⟨R,_,(Jx2 _ _).wk R⟩ (KM R)
 rintro _ w166 _ ⟨rfl,K167,S168⟩
 have h:=hK161
 refine Jt1 (Jd ?_)
 revert h
 cases ht169:p83
 refine JF fun h=>Jy R (Js (Jp (Je [2,2] R (Jb 2 R (Jq (Je [2,2,2,1,2] R (Jn 2 R (Ob h fun x87 hx87 h=>Jf R (Jf2 f120.rdc hx87 U22 Z2 R R R R) (Jl tv R R R R (Jc2 I2 R R (hvE ((f120.stp (S126.tr (S133.tr (S139.tr (S152.tr (S157.tr S168))))) R R).rdc.gInt hx87))) (Jb 1 R (Ob h fun q7 h hK172=>Jx1 (fun L w'=>∃κ' aq ap,L=[(2,.pointer (some ⟨b2,0,none⟩)),(4,.pointer (some ⟨b4,0,none⟩)),(6,.slice aa x19.length ab),(7,.pointer (some ⟨b7,0,none⟩)),(9,.slice an x56.length al),(10,.slice am x58.length ao),(11,vi v11),(12,.slice aq q7.length ap)]∧Stp [] K167 w166 κ' w'∧Rd Rp.bool κ' w' 0 aq ap q7) ?_ ?_)))))))))))
 revert h
 cases ht177:(x87==1)
 refine JF fun h=>Jy R (Js ?_)
 cases h
 exact Jw1 _ ⟨K167,an,al,R,(Jx2 _ _).wk R,((Sl.st z134 ((f114.mx no_bool m117 R (R:17+2=19)).stp S126 R R).rdc).stp (S139.tr (S152.tr (S157.tr S168))) R R)⟩ (KM R)
 refine JT fun h=>Jx R (Ja [2,2] R (Jc 2 R ?_))
 cases h
 exact Jw1 _ ⟨K167,am,ao,R,(Jx2 _ _).wk R,((Sl.st z140 ((f124.mx no_bool m127 R (R:20+2=22)).stp S133 R R).rdc).stp (S152.tr (S157.tr S168)) R R)⟩ (KM R)
 rintro _ w173 ⟨K174,aq,ap,rfl,S175,f176⟩
 have h:=hK172
 refine Jp (Js1 (κ:=K174) [16] none [(0,2),(2,2),(4,2),(5,2),(1,0),(3,0),(6,1),(7,2),(8,1)] [] (by kernel_rfl) (by kernel_rfl) fun w181 S180=>Jf R (Jb2 U111 R Z22 R R) (Jn 3 R ?_))
 have f182:=f159.stp (S168.tr (S175.tr S180)) R R
 have S003:=(S63.tr (S66.tr (S73.tr (S116.tr (S126.tr (S133.tr (S139.tr (S152.tr (S157.tr (S168.tr (S175.tr S180)))))))))))
 refine Jg R (Jc2 I22 R R (hvC (f182.ld 4 R R) R)) (Jg R (Jd2 (cs:=[.slice av x21.owner.length aw,.slice ar x21.prio.length au,.slice az x21.next.length ay,.slice aA x21.prev.length ax,.slice ad x21.pick.length ac]) I111 Z111 R R R (haC f182.cells R)) (Ob h fun x97 hx97 h=>Jh R R R C100 (Ret.cast (by simp only[hn154,List.cons_append,List.nil_append]) (s_l7Pick_ok (κ:=fun b=>mp [(15,2)] 0 (K174 b)) (p0:=(⟨x21.owner,x21.prio,x21.next,x21.prev,s4⟩:l7Game)) (Jl2 ((f47.mx z55).stp S003 R R) (mp [(15,2)] 0) R R) (Jl2 ((f48.mx z55).stp S003 R R) (mp [(15,2)] 0) R R) (Jl2 ((f49.mx z55).stp S003 R R) (mp [(15,2)] 0) R R) (Jl2 ((f50.mx (no_own (no_int _) _) m54 R (R:9+5=14)).stp S003 R R).rdc (mp [(15,2)] 0) R R) ((f160.stp (S168.tr (S175.tr S180)) R R).map (mp [(15,2)] 0) R R) (Jl2 (f176.stp S180 R R) (mp [(15,2)] 0) R R) hx97)) ?_))
 rintro _ w189 ⟨k190,rfl,e191,f192,hn193⟩
 obtain⟨K194,S195,m196⟩:=Ji e191 23 R
 refine⟨(S195.cl R),?_⟩
 have f198:=f192.mx (no_int _) m196 R (R:23+2=25)
 refine Ob h fun x98 hx98 h=>Jf R (Jf2 f198.rdc hx98 U22 Z2 R R (hn154.trans hn193) R) (Ob h fun y231 hy231 h=>Jk1 (κ:=K194) (E:=E6) 25 [] R R R R R R R R Z2 R R R R f198 hy231 fun w199 K200 S201 f202=>⟨((S195.tr S201).cl R),?_⟩)
 have hn203:x21.pick.length=y231.length:=(hn154.trans hn193).trans (Jt2 hy231).2.2.2.symm
 refine Jt1 (Jo (Jz (Jp (Ja [2,2,2] R (Jc 3 R ?_)))))
 have hw142:IntKind.wrap .i64 (v11+1)=v11+1:=wr1 hj142 (Jm2 hc142) hN142
 rw[hw142]
 have hc142:=Jm2 hc142
 cases h
 exact Jz1 fun a ha=>⟨k,_,Ja3 _,⟨(fun b=>ren [(25,15)] (K200 b)),v11+1,(y231:(List Int)),R,(Jy2 ((S152.tr (S157.tr (S168.tr (S175.tr (S180.tr (S195.tr S201)))))).wk R) [(25,15)] R),(f202.map (ren [(25,15)]) R R),hn203,by omega,by omega,hk156⟩,(ha.mm R)⟩
 refine JT fun h=>Jx R (Jc1 (Jt (Jb1 (Jp (Ja [2,2,2] R (Jc 3 R ?_))))))
 have hw142:IntKind.wrap .i64 (v11+1)=v11+1:=wr1 hj142 (Jm2 hc142) hN142
 rw[hw142]
 have hc142:=Jm2 hc142
 cases h
 exact Jz1 fun a ha=>⟨k,_,Ja3 _,⟨K167,v11+1,(s4:(List Int)),R,(S152.tr (S157.tr S168)).wk R,(f160.stp S168 R R),hn154,by omega,by omega,hk156⟩,(ha.mm R)⟩
 rintro _ w145 ⟨K146,s6,rfl,S147,f148,hn149,rfl⟩
 have h:=hK143
 dsimp only[aft]at h
 refine Jp (Je [2,2,1,2,1,2] R (Jn 1 R (Jf R (Jb2 U111 R Z22 R R) (Jl tv R R R R (Jc2 I22 R R (hvE ((f67.stp (S73.tr (S116.tr (S126.tr (S133.tr (S139.tr S147))))) R R).ld 4 R R))) (Jf R (rn_build (parts:=[(0,.tmp 99),(1,.tmp 101)]) (cells:=[.slice aa x19.length ab,.slice ad x21.pick.length ac]) R R (by kernel_rfl)) (Jj1 (κ:=K146) 3 (vc:=[.slice aa x19.length ab,.slice ad x21.pick.length ac]) R R R R R R R Z34 R R (f8.stp (S18.tr (S36.tr (S53.tr (S63.tr (S66.tr (S73.tr (S116.tr (S126.tr (S133.tr (S139.tr S147)))))))))) R R) R fun w206 S207 f208=>⟨tv,Jb 1 R (Ju (Ja2 (l:=[.cell 4 34,.tmp 5]) V58 (res_cellA R f208 I34 Z34 R (Jp2 R R)) R ?_))⟩))))))
 cases h
 exact⟨(fun b=>ren [(8,2),(15,3)] (K146 b)),aa,ab,ad,ac,(by simp only[hn149]),((hE.stp (S3.tr (S7.tr (S18.tr (S36.tr (S53.tr (S63.tr (S66.tr (S73.tr (S116.tr (S126.tr (S133.tr (S139.tr (S147.tr S207))))))))))))) R R).map (ren [(8,2),(15,3)]) R R),((f120.stp (S126.tr (S133.tr (S139.tr (S147.tr S207)))) R R).map (ren [(8,2),(15,3)]) R R),((f148.stp S207 R R).map (ren [(8,2),(15,3)]) R R)⟩
 refine JT fun h=>Jx R (Je [2,1,2] R (Jf R (rn_build (parts:=[]) (cells:=[.slice none 0 0,.slice none 0 0]) R R (by kernel_rfl)) (Jj1 (κ:=K17) 3 (vc:=[.slice none 0 0,.slice none 0 0]) R R R R R R R Z34 R R (f8.stp S18 R R) R fun w23 S24 f25=>⟨tv,Jb 1 R (Ju (Jw (Ja2 (l:=[.cell 4 34,.tmp 5]) V58 (res_cellA R f25 I34 Z34 R (Jp2 R R)) R ?_)))⟩)))
 cases h
 exact⟨K17,none,0,none,0,R,(hE.stp (S3.tr (S7.tr (S18.tr S24))) R R),Ow.nil,Ow.nil⟩
theorem s_Solved_ok {w:World}{κ:Col}{aj ao ak al am an}{p0:Parity}(g0_0_0:Rd (Rp.int .i64) κ w 0 aj ao p0.Arena.Owner) (g0_0_1:Rd (Rp.sl (Rp.int .i64)) κ w 0 ak al p0.Arena.Next) (g0_1:Rd (Rp.int .i64) κ w 0 am an p0.Prio){r:Answer}(h:s_Solved p0=some r):Ret Tryz.prog 24 [.agg #[.slice aj p0.Arena.Owner.length ao,.slice ak p0.Arena.Next.length al,.slice am p0.Prio.length an]] w (fun v w'=>∃(κ':Col) (ra0:Option Addr) (ru0:Nat) (ra1:Option Addr) (ru1:Nat),v= .agg #[.slice ra0 r.Won.length ru0,.slice ra1 r.Plan.length ru1]∧Ent κ w κ' w'∧Oc E6 2 κ' w' 2 ra0 ru0 r.Won∧Oc E6 2 κ' w' 3 ra1 ru1 r.Plan):=by
 unfold s_Solved at h
 refine Ret.enter F24 R N24 R ?_
 dsimp only[envOf]
 have hE:=Ent.refl κ w
 refine Je [1,1] R (Jf1 (κ:=κ) 2 R R R R R R R fun b1 w1 K2 S3 f4=>⟨tv,Jg1 (κ:=K2) 3 R R R R R X34 R fun b2 w5 K6 S7 f8=>⟨tv,Jd (Jq (Je [1,1,2] R ?_))⟩⟩)
 have f9:=f4.stp S7 R R
 refine Jl tv R R R R (Jd2 (cs:=[.slice aj p0.Arena.Owner.length ao,.slice ak p0.Arena.Next.length al,.slice am p0.Prio.length an]) I39 Z39 R R R (haE f9.cells)) (Ob h fun x6 hx6 h=>?_)
 have f10:=g0_0_0.stp (S3.tr S7) R R
 have f11:=g0_0_1.stp (S3.tr S7) R R
 have f12:=g0_1.stp (S3.tr S7) R R
 refine Jh R R R C55 (s_ParityOk_ok (κ:=fun b=>mp [] 0 (K6 b)) (p0:=p0) (Jl2 f10 (mp [] 0) R R) (Jl2 f11 (mp [] 0) R R) (Jl2 f12 (mp [] 0) R R) hx6) ?_
 rintro _ w13 ⟨k14,rfl,e15⟩
 obtain⟨K16,S17,m18⟩:=Ji e15 4 R
 refine⟨tv,Jb 1 R ?_⟩
 revert h
 cases ht20:(!x6)
 refine JF fun h=>Jy R (Js (Jp (Jq (Ob h fun x14 hx14 h=>Ob h fun x15 hx15 h=>Jx1 (fun L w'=>∃κ' b3 af ai ae ah,L=[(2,.pointer (some ⟨b2,0,none⟩)),(3,.pointer (some ⟨b3,0,none⟩))]∧Stp [6,9,11,12,13] K16 w13 κ' w'∧Oc E6 2 κ' w' 6 af ai x15.1.Won∧Oc E6 2 κ' w' 7 ae ah x15.1.Plan∧Bc κ' w' 8 b3 34 [.slice af x15.1.Won.length ai,.slice ae x15.1.Plan.length ah]) ?_ ?_))))
 refine WC.rxt (κ:=K16) [2] none (by kernel_rfl) fun w33 S34=>Jq1 (fuel:=8) [(1,2),(0,0),(2,0),(3,2)] (by kernel_rfl) (by kernel_rfl) R (Jf R (Jb2 U39 R Z22 R R) ?_)
 have f35:=f9.stp (S17.tr S34) R R
 refine Jg R (Jd2 (cs:=[.slice aj p0.Arena.Owner.length ao,.slice ak p0.Arena.Next.length al,.slice am p0.Prio.length an]) I39 Z39 R R R (haC f35.cells R)) (Jg R (Jc2 I22 R R (hvC (f35.ld 2 R R) R)) (Jf R (Je2 U22 R R) (Jp1 (WA.fork2 (fuel:=7) 4 9 (by kernel_rfl) R ?_ ?_))))
 refine Jh R R R C59 (s_l7None_ok (κ:=fun b=>mp [] 0 (K16 b)) hx14) ?_
 rintro _ w36 ⟨k37,ap,aq,rfl,e38,f39⟩
 obtain⟨K40,S41,m42⟩:=Ji e38 6 R
 refine⟨(S41.cl R),?_⟩
 have f44:=f39.mx (no_int _) m42 R (R:6+2=8)
 refine Jp1 (WA.fork2 (fuel:=6) 5 9 (by kernel_rfl) R ?_ ?_)
 have S001:=(S17.tr (S34.tr S41))
 refine Jh R R R C58 (s_PlanFrom_ok (κ:=fun b=>mp [] 0 (K40 b)) (p0:=p0) (Jl2 (f10.stp S001 R R) (mp [] 0) R R) (Jl2 (f11.stp S001 R R) (mp [] 0) R R) (Jl2 (f12.stp S001 R R) (mp [] 0) R R) (Jl2 f44.rdc (mp [] 0) R R) hx15) ?_
 rintro _ w48 ⟨k49,aa,ab,ad,ac,rfl,e50,f51,f52⟩
 obtain⟨K53,S54,m55⟩:=Ji e50 9 R
 exact⟨((S41.tr S54).cl R),Jp1 (Jq1 (fuel:=0) [(6,2),(7,2),(8,2),(9,1),(10,1),(11,2)] (by kernel_rfl) (by kernel_rfl) R (Jn 3 R (Jg1 (κ:=K53) 13 R R R R R X34 R fun b3 w59 K60 S61 f62=>⟨((S41.tr (S54.tr S61)).cl R),Jj1 (κ:=K60) 13 (vc:=[.slice aa x15.1.Won.length ab,.slice ad x15.1.Plan.length ac]) R R R R R R R Z34 R R f62 R fun w63 S64 f65=>⟨((S41.tr (S54.tr (S61.tr S64))).cl R),Jn 1 R (Jp1 (Jr1 [] (by kernel_rfl) (by kernel_rfl) R (Jo (Jw1 _ ⟨(fun b=>ren [(11,6),(12,7),(13,8)] (K60 b)),b3,aa,ab,ad,ac,R,(Jy2 ((S34.tr (S41.tr (S54.tr (S61.tr S64)))).wk R) [(11,6),(12,7),(13,8)] R),(((f51.mx (no_int _) m55 R (R:9+2=11)).stp (S61.tr S64) R R).map (ren [(11,6),(12,7),(13,8)]) R R),(((f52.mx (no_int _) m55 R (R:9+3=12)).stp (S61.tr S64) R R).map (ren [(11,6),(12,7),(13,8)]) R R),(f65.map (ren [(11,6),(12,7),(13,8)]) R R)⟩ (KM R)))))⟩⟩)))⟩
 have S002:=(S17.tr (S34.tr S41))
 refine Jg1 (κ:=K40) 9 R R R R R X34 R fun b3 w68 K69 S70 f71=>⟨((S41.tr S70).cl R),Jp1 (Jq1 (fuel:=0) [(5,1),(6,2),(7,2),(8,2),(10,1),(11,2)] (by kernel_rfl) (by kernel_rfl) R (Jh R R R C58 (s_PlanFrom_ok (κ:=fun b=>mp [] 0 (K69 b)) (p0:=p0) (Jl2 (f10.stp (S002.tr S70) R R) (mp [] 0) R R) (Jl2 (f11.stp (S002.tr S70) R R) (mp [] 0) R R) (Jl2 (f12.stp (S002.tr S70) R R) (mp [] 0) R R) (Jl2 (f44.stp S70 R R).rdc (mp [] 0) R R) hx15) ?_))⟩
 rintro _ w76 ⟨k77,aa,ab,ad,ac,rfl,e78,f79,f80⟩
 obtain⟨K81,S82,m83⟩:=Ji e78 10 R
 exact⟨((S41.tr (S70.tr S82)).cl R),Jn 3 R (Jj1 (κ:=K81) 9 (vc:=[.slice aa x15.1.Won.length ab,.slice ad x15.1.Plan.length ac]) R R R R R R R Z34 R R (f71.stp S82 R R) R fun w88 S89 f90=>⟨((S41.tr (S70.tr (S82.tr S89))).cl R),Jn 1 R (Jp1 (Jr1 [] (by kernel_rfl) (by kernel_rfl) R (Jo (Jw1 _ ⟨(fun b=>ren [(12,6),(13,7),(9,8)] (K81 b)),b3,aa,ab,ad,ac,R,(Jy2 ((S34.tr (S41.tr (S70.tr (S82.tr S89)))).wk R) [(12,6),(13,7),(9,8)] R),(((f79.mx (no_int _) m83 R (R:10+2=12)).stp S89 R R).map (ren [(12,6),(13,7),(9,8)]) R R),(((f80.mx (no_int _) m83 R (R:10+3=13)).stp S89 R R).map (ren [(12,6),(13,7),(9,8)]) R R),(f90.map (ren [(12,6),(13,7),(9,8)]) R R)⟩ (KM R)))))⟩)⟩
 refine Jg1 (κ:=K16) 6 R R R R R X34 R fun b3 w93 K94 S95 f96=>⟨(S95.cl R),Jp1 (Jq1 (fuel:=0) [(4,1),(5,1),(6,2),(7,2),(8,2),(10,1),(11,2)] (by kernel_rfl) (by kernel_rfl) R (Jh R R R C59 (s_l7None_ok (κ:=fun b=>mp [] 0 (K94 b)) hx14) ?_))⟩
 rintro _ w97 ⟨k98,ap,aq,rfl,e99,f100⟩
 obtain⟨K101,S102,m103⟩:=Ji e99 7 R
 have S003:=(S17.tr (S34.tr (S95.tr S102)))
 refine⟨((S95.tr S102).cl R),Jh R R R C58 (s_PlanFrom_ok (κ:=fun b=>mp [] 0 (K101 b)) (p0:=p0) (Jl2 (f10.stp S003 R R) (mp [] 0) R R) (Jl2 (f11.stp S003 R R) (mp [] 0) R R) (Jl2 (f12.stp S003 R R) (mp [] 0) R R) (Jl2 (f100.mx (no_int _) m103 R (R:7+2=9)).rdc (mp [] 0) R R) hx15) ?_⟩
 rintro _ w109 ⟨k110,aa,ab,ad,ac,rfl,e111,f112,f113⟩
 obtain⟨K114,S115,m116⟩:=Ji e111 10 R
 exact⟨((S95.tr (S102.tr S115)).cl R),Jn 3 R (Jj1 (κ:=K114) 6 (vc:=[.slice aa x15.1.Won.length ab,.slice ad x15.1.Plan.length ac]) R R R R R R R Z34 R R (f96.stp (S102.tr S115) R R) R fun w121 S122 f123=>⟨((S95.tr (S102.tr (S115.tr S122))).cl R),Jn 1 R (Jp1 (Jr1 [] (by kernel_rfl) (by kernel_rfl) R (Jo (Jw1 _ ⟨(fun b=>ren [(12,6),(13,7),(6,8)] (K114 b)),b3,aa,ab,ad,ac,R,(Jy2 ((S34.tr (S95.tr (S102.tr (S115.tr S122)))).wk R) [(12,6),(13,7),(6,8)] R),(((f112.mx (no_int _) m116 R (R:10+2=12)).stp S122 R R).map (ren [(12,6),(13,7),(6,8)]) R R),(((f113.mx (no_int _) m116 R (R:10+3=13)).stp S122 R R).map (ren [(12,6),(13,7),(6,8)]) R R),(f123.map (ren [(12,6),(13,7),(6,8)]) R R)⟩ (KM R)))))⟩)⟩
 rintro _ w26 ⟨K27,b3,af,ai,ae,ah,rfl,S28,f30,f31,f32⟩
 refine Jp (Je [1,1] R (Jl tv R R R R (Jd2 (cs:=[.slice af x15.1.Won.length ai,.slice ae x15.1.Plan.length ah]) I34 Z34 R R R (haE f32.cells)) (Jj1 (κ:=K27) 3 (vc:=[.slice af x15.1.Won.length ai,.slice ae x15.1.Plan.length ah]) R R R R R R R Z34 R R (f8.stp (S17.tr S28) R R) R fun w127 S128 f129=>⟨tv,Jd (Ju (Ja2 (l:=[.cell 2 34]) V24 (res_cellA R f129 I34 Z34 R R) R ?_))⟩)))
 cases h
 exact⟨(fun b=>ren [(6,2),(7,3)] (K27 b)),af,ai,ae,ah,R,((hE.stp (S3.tr (S7.tr (S17.tr (S28.tr S128)))) R R).map (ren [(6,2),(7,3)]) R R),((f30.stp S128 R R).map (ren [(6,2),(7,3)]) R R),((f31.stp S128 R R).map (ren [(6,2),(7,3)]) R R)⟩
 refine JT fun h=>Jx R (Je [2,1] R (Jf R (rn_build (parts:=[]) (cells:=[.slice none 0 0,.slice none 0 0]) R R (by kernel_rfl)) (Jj1 (κ:=K16) 3 (vc:=[.slice none 0 0,.slice none 0 0]) R R R R R R R Z34 R R (f8.stp S17 R R) R fun w22 S23 f24=>⟨tv,Jd (Ju (Jw (Ja2 (l:=[.cell 2 34]) V24 (res_cellA R f24 I34 Z34 R R) R ?_)))⟩)))
 cases h
 exact⟨K16,none,0,none,0,R,(hE.stp (S3.tr (S7.tr (S17.tr S23))) R R),Ow.nil,Ow.nil⟩
theorem s_CleanIn_ok {w:World}{κ:Col}{aa af ab ac ad ae}{p0:Parity}{p1:Int}{a2 u2}{p2:(List Int)}{a3 u3}{p3:(List Int)}(g0_0_0:Rd (Rp.int .i64) κ w 0 aa af p0.Arena.Owner) (g0_0_1:Rd (Rp.sl (Rp.int .i64)) κ w 0 ab ac p0.Arena.Next) (g0_1:Rd (Rp.int .i64) κ w 0 ad ae p0.Prio) (g2:Rd (Rp.int .i64) κ w 0 a2 u2 p2) (g3:Rd (Rp.int .i64) κ w 0 a3 u3 p3){r:Bool}(h:s_CleanIn p0 p1 p2 p3=some r):Ret Tryz.prog 104 [.agg #[.slice aa p0.Arena.Owner.length af,.slice ab p0.Arena.Next.length ac,.slice ad p0.Prio.length ae],vi p1,.slice a2 p2.length u2,.slice a3 p3.length u3] w (fun v w'=>∃(κ':Col),v= .bool r∧Ent κ w κ' w'):=by
 unfold s_CleanIn at h
 refine Ret.enter F104 R N104 R ?_
 dsimp only[envOf]
 have hE:=Ent.refl κ w
 refine Je [1,2] R (Jf1 (κ:=κ) 2 R R R R R R R fun b4 w1 K2 S3 f4=>⟨tv,Jb 1 R (Je [1,2,2,2,1,2,1,2,2,2,1,2,2,2,2] R (Jl tv R R R R (Jd2 (cs:=[.slice aa p0.Arena.Owner.length af,.slice ab p0.Arena.Next.length ac,.slice ad p0.Prio.length ae]) I39 Z39 R R R (haE f4.cells)) (Jn 3 R (Ob h fun x13 hx13 h=>?_))))⟩)
 have f5:=g0_0_0.stp S3 R R
 have f6:=g0_0_1.stp S3 R R
 have f7:=g0_1.stp S3 R R
 have f8:=g2.stp S3 R R
 have f9:=g3.stp S3 R R
 refine Jh R R R C133 (s_l6Right_ok (κ:=fun b=>mp [] 0 (K2 b)) (p0:=p0) (Jl2 f5 (mp [] 0) R R) (Jl2 f6 (mp [] 0) R R) (Jl2 f7 (mp [] 0) R R) (Jl2 f8 (mp [] 0) R R) (Jl2 f9 (mp [] 0) R R) hx13) ?_
 rintro _ w10 ⟨k11,rfl,e12⟩
 obtain⟨K13,S14,m15⟩:=Ji e12 3 R
 refine⟨tv,Jn 1 R (Ob h fun p22 h hK17=>Ju1 [(6,1),(7,2),(8,2),(9,2),(10,1),(11,2),(12,2),(13,2)] [(14,2)] (fun L w'=>L=[(8,.bool false),(22,.bool p22)]∧∃κ',Stp [] K13 w10 κ' w') tv ?_ ?_)⟩
 revert h
 cases ht18:x13
 refine JF fun h=>Jd1 R R R R (Jn 3 R (Jd1 R R R R (Jn 3 R ?_)))
 cases h
 exact Jv1 _ tv ⟨R,_,(Jx2 _ _).wk R⟩ (KM R)
 refine JT fun h=>Jl tv R R R R (Jd2 (cs:=[.slice aa p0.Arena.Owner.length af,.slice ab p0.Arena.Next.length ac,.slice ad p0.Prio.length ae]) I39 Z39 R R R (haE (f4.stp S14 R R).cells)) (Jn 3 R (Ob h fun x19 hx19 h=>Jh R R R C134 (s_BadLoops_ok (κ:=fun b=>mp [] 0 (K13 b)) (p0:=p0) (Jl2 (f5.stp S14 R R) (mp [] 0) R R) (Jl2 (f6.stp S14 R R) (mp [] 0) R R) (Jl2 (f7.stp S14 R R) (mp [] 0) R R) (Jl2 (f8.stp S14 R R) (mp [] 0) R R) (Jl2 (f9.stp S14 R R) (mp [] 0) R R) hx19) ?_))
 rintro _ w25 ⟨k26,ai,ah,rfl,e27,f28⟩
 obtain⟨K29,S30,m31⟩:=Ji e27 5 R
 refine⟨tv,Jf R (Je2 U22 R R) (Jn 2 R ?_)⟩
 cases h
 exact Jv1 _ tv ⟨R,_,S30.wk R⟩ (KM R)
 rintro _ w34 _ ⟨rfl,K35,S36⟩
 have h:=hK17
 refine Jb 1 R (Ju (Ja2 (l:=[.tmp 8]) V104 (Jp2 R R) R ?_))
 cases h
 exact⟨K35,R,(hE.stp (S3.tr (S14.tr S36)) R R)⟩
theorem s_WinsBy_ok {w:World}{κ:Col}{aa ad ab ac ae af}{p0:Parity}{p1:Int}{a2 u2}{p2:(List Int)}{a3 u3}{p3:(List Int)}(g0_0_0:Rd (Rp.int .i64) κ w 0 aa ad p0.Arena.Owner) (g0_0_1:Rd (Rp.sl (Rp.int .i64)) κ w 0 ab ac p0.Arena.Next) (g0_1:Rd (Rp.int .i64) κ w 0 ae af p0.Prio) (g2:Rd (Rp.int .i64) κ w 0 a2 u2 p2) (g3:Rd (Rp.int .i64) κ w 0 a3 u3 p3){r:Bool}(h:s_WinsBy p0 p1 p2 p3=some r):Ret Tryz.prog 63 [.agg #[.slice aa p0.Arena.Owner.length ad,.slice ab p0.Arena.Next.length ac,.slice ae p0.Prio.length af],vi p1,.slice a2 p2.length u2,.slice a3 p3.length u3] w (fun v w'=>∃(κ':Col),v= .bool r∧Ent κ w κ' w'):=by
 unfold s_WinsBy at h
 refine Ret.enter F63 R N63 R ?_
 dsimp only[envOf]
 have hE:=Ent.refl κ w
 refine Je [1,2] R (Jf1 (κ:=κ) 2 R R R R R R R fun b4 w1 K2 S3 f4=>⟨tv,Jb 1 R (Je [1,2,2,2,1,2,2,1,2,2,2,1,2,2] R (Jl tv R R R R (Jd2 (cs:=[.slice aa p0.Arena.Owner.length ad,.slice ab p0.Arena.Next.length ac,.slice ae p0.Prio.length af]) I39 Z39 R R R (haE f4.cells)) (Jn 3 R (Ob h fun x13 hx13 h=>?_))))⟩)
 have f5:=g0_0_0.stp S3 R R
 have f6:=g0_0_1.stp S3 R R
 have f8:=g2.stp S3 R R
 have f9:=g3.stp S3 R R
 refine Jh R R R C104 (s_CleanIn_ok (κ:=fun b=>mp [] 0 (K2 b)) (p0:=p0) (Jl2 f5 (mp [] 0) R R) (Jl2 f6 (mp [] 0) R R) (Jl2 (g0_1.stp S3 R R) (mp [] 0) R R) (Jl2 f8 (mp [] 0) R R) (Jl2 f9 (mp [] 0) R R) hx13) ?_
 rintro _ w10 ⟨k11,rfl,e12⟩
 obtain⟨K13,S14,m15⟩:=Ji e12 3 R
 refine⟨tv,Jn 1 R (Ob h fun p21 h hK17=>Ju1 [(6,2),(7,1),(8,2),(9,2),(10,2),(11,1),(12,2)] [(13,2)] (fun L w'=>L=[(8,.bool false),(21,.bool p21)]∧∃κ',Stp [] K13 w10 κ' w') tv ?_ ?_)⟩
 revert h
 cases ht18:x13
 refine JF fun h=>Jn 1 R (Jd1 R R R R (Jn 3 R (Jd1 R R R R (Jn 1 R ?_))))
 cases h
 exact Jv1 _ tv ⟨R,_,(Jx2 _ _).wk R⟩ (KM R)
 refine JT fun h=>Jf R (Jb2 U39 R Z37 R R) (Jl tv R R R R (Jd2 (cs:=[.slice aa p0.Arena.Owner.length ad,.slice ab p0.Arena.Next.length ac]) I37 Z37 R R R (haE ((f4.stp S14 R R).lds 0 2 R))) (Jn 3 R (Ob h fun x20 hx20 h=>Jh R R R C105 (s_ClosedIn_ok (κ:=fun b=>mp [] 0 (K13 b)) (p0:=p0.Arena) (Jl2 (f5.stp S14 R R) (mp [] 0) R R) (Jl2 (f6.stp S14 R R) (mp [] 0) R R) (Jl2 (f8.stp S14 R R) (mp [] 0) R R) (Jl2 (f9.stp S14 R R) (mp [] 0) R R) hx20) ?_)))
 rintro _ w24 ⟨k25,rfl,e26⟩
 obtain⟨K27,S28,m29⟩:=Ji e26 5 R
 refine⟨tv,Jn 1 R ?_⟩
 cases h
 exact Jv1 _ tv ⟨R,_,S28.wk R⟩ (KM R)
 rintro _ w31 _ ⟨rfl,K32,S33⟩
 have h:=hK17
 refine Jb 1 R (Ju (Ja2 (l:=[.tmp 8]) V63 (Jp2 R R) R ?_))
 cases h
 exact⟨K32,R,(hE.stp (S3.tr (S14.tr S33)) R R)⟩
theorem s_AnswerOk_ok {w:World}{κ:Col}{aa ai ab ad ae ah}{p0:Parity}{aj ak ac af}{p1:Answer}(g0_0_0:Rd (Rp.int .i64) κ w 0 aa ai p0.Arena.Owner) (g0_0_1:Rd (Rp.sl (Rp.int .i64)) κ w 0 ab ad p0.Arena.Next) (g0_1:Rd (Rp.int .i64) κ w 0 ae ah p0.Prio) (g1_0:Rd (Rp.int .i64) κ w 0 aj ak p1.Won) (g1_1:Rd (Rp.int .i64) κ w 0 ac af p1.Plan){r:Bool}(h:s_AnswerOk p0 p1=some r):Ret Tryz.prog 27 [.agg #[.slice aa p0.Arena.Owner.length ai,.slice ab p0.Arena.Next.length ad,.slice ae p0.Prio.length ah],.agg #[.slice aj p1.Won.length ak,.slice ac p1.Plan.length af]] w (fun v w'=>∃(κ':Col),v= .bool r∧Ent κ w κ' w'):=by
 unfold s_AnswerOk at h
 refine Ret.enter F27 R N27 R ?_
 dsimp only[envOf]
 have hE:=Ent.refl κ w
 refine Je [1,1,2] R (Jf1 (κ:=κ) 2 R R R R R R R fun b2 w1 K2 S3 f4=>⟨tv,Jf1 (κ:=K2) 3 R R R R R R R fun b3 w5 K6 S7 f8=>⟨tv,Jb 1 R (Jq (Je [1,1,1,2] R ?_))⟩⟩)
 have f9:=f4.stp S7 R R
 refine Jl tv R R R R (Jd2 (cs:=[.slice aa p0.Arena.Owner.length ai,.slice ab p0.Arena.Next.length ad,.slice ae p0.Prio.length ah]) I39 Z39 R R R (haE f9.cells)) (Jl tv R R R R (Jd2 (cs:=[.slice aj p1.Won.length ak,.slice ac p1.Plan.length af]) I34 Z34 R R R (haE f8.cells)) (Ob h fun x7 hx7 h=>?_))
 have f10:=g0_0_0.stp (S3.tr S7) R R
 have f11:=g0_0_1.stp (S3.tr S7) R R
 have f12:=g0_1.stp (S3.tr S7) R R
 have f13:=g1_0.stp (S3.tr S7) R R
 have f14:=g1_1.stp (S3.tr S7) R R
 refine Jh R R R C62 (s_l6Form_ok (κ:=fun b=>mp [] 0 (K6 b)) (p0:=p0) (p1:=p1) (Jl2 f10 (mp [] 0) R R) (Jl2 f11 (mp [] 0) R R) (Jl2 f12 (mp [] 0) R R) (Jl2 f13 (mp [] 0) R R) (Jl2 f14 (mp [] 0) R R) hx7) ?_
 rintro _ w15 ⟨k16,rfl,e17⟩
 obtain⟨K18,S19,m20⟩:=Ji e17 4 R
 refine⟨tv,Jb 1 R ?_⟩
 revert h
 cases ht22:(!x7)
 refine JF fun h=>Jy R (Js (Jp (Jq (Js1 (κ:=K18) [2,3] none [(0,0),(1,0),(3,0),(4,0),(2,1),(5,1),(6,1),(7,2),(8,0),(9,0),(11,0),(12,0),(10,1),(13,1),(14,1),(15,2),(16,2)] [] (by kernel_rfl) (by kernel_rfl) fun w25 S24=>?_))))
 have f26:=f9.stp (S19.tr S24) R R
 refine Jg R (Jd2 (cs:=[.slice aa p0.Arena.Owner.length ai,.slice ab p0.Arena.Next.length ad,.slice ae p0.Prio.length ah]) I39 Z39 R R R (haC f26.cells R)) ?_
 have f27:=f8.stp (S19.tr S24) R R
 refine Jg R (Jd2 (cs:=[.slice aj p1.Won.length ak,.slice ac p1.Plan.length af]) I34 Z34 R R R (haC f27.cells R)) (Jg R (Jd2 (cs:=[.slice aa p0.Arena.Owner.length ai,.slice ab p0.Arena.Next.length ad,.slice ae p0.Prio.length ah]) I39 Z39 R R R (haC f26.cells R)) (Jg R (Jd2 (cs:=[.slice aj p1.Won.length ak,.slice ac p1.Plan.length af]) I34 Z34 R R R (haC f27.cells R)) (Ob h fun x11 hx11 h=>?_)))
 have f28:=f13.stp (S19.tr S24) R R
 have f29:=f14.stp (S19.tr S24) R R
 refine Jh R R R C64 (s_RegionOf_ok (κ:=fun b=>mp [] 0 (K18 b)) (p0:=p1) (Jl2 f28 (mp [] 0) R R) (Jl2 f29 (mp [] 0) R R) hx11) ?_
 rintro _ w30 ⟨k31,aq,ao,rfl,e32,f33⟩
 obtain⟨K34,S35,m36⟩:=Ji e32 6 R
 refine⟨(S35.cl R),Ob h fun x14 hx14 h=>?_⟩
 have f39:=f10.stp (S19.tr (S24.tr S35)) R R
 have f40:=f11.stp (S19.tr (S24.tr S35)) R R
 have f41:=f12.stp (S19.tr (S24.tr S35)) R R
 have f42:=f28.stp S35 R R
 have f43:=f29.stp S35 R R
 refine Jh R R R C65 (s_l6Part_ok (κ:=fun b=>mp [] 0 (K34 b)) (p0:=p0) (p1:=p1) (Jl2 f39 (mp [] 0) R R) (Jl2 f40 (mp [] 0) R R) (Jl2 f41 (mp [] 0) R R) (Jl2 f42 (mp [] 0) R R) (Jl2 f43 (mp [] 0) R R) hx14) ?_
 rintro _ w44 ⟨k45,al,ar,rfl,e46,f47⟩
 obtain⟨K48,S49,m50⟩:=Ji e46 9 R
 refine⟨((S35.tr S49).cl R),Ob h fun x15 hx15 h=>?_⟩
 have f53:=f39.stp S49 R R
 have f54:=f40.stp S49 R R
 have f55:=f41.stp S49 R R
 refine Jh R R R C63 (s_WinsBy_ok (κ:=fun b=>mp [] 0 (K48 b)) (p0:=p0) (Jl2 f53 (mp [] 0) R R) (Jl2 f54 (mp [] 0) R R) (Jl2 f55 (mp [] 0) R R) (Jl2 ((f33.mx (no_int _) m36 R (R:6+2=8)).stp S49 R R).rdc (mp [] 0) R R) (Jl2 (f47.mx (no_int _) m50 R (R:9+2=11)).rdc (mp [] 0) R R) hx15) ?_
 rintro _ w57 ⟨k58,rfl,e59⟩
 obtain⟨K60,S61,m62⟩:=Ji e59 12 R
 refine⟨((S35.tr (S49.tr S61)).cl R),Jn 1 R (Ob h fun p24 h hK64=>Ju1 [(8,0),(9,0),(11,0),(12,0),(10,1),(13,1),(14,1),(15,2)] [(16,2)] (fun L w'=>L=[(4,.bool false),(24,.bool p24)]∧∃κ',Stp [] K60 w57 κ' w') ((S35.tr (S49.tr S61)).cl R) ?_ ?_)⟩
 revert h
 cases ht65:x15
 refine JF fun h=>Je1 R R R R (Je1 R R R R (Je1 R R R R (Je1 R R R R (Jd1 R R R R (Jd1 R R R R (Jd1 R R R R (Jn 1 R ?_)))))))
 cases h
 exact Jv1 _ ((S35.tr (S49.tr S61)).cl R) ⟨R,_,(Jx2 _ _).wk R⟩ (KM R)
 refine JT fun h=>Jg R (Jd2 (cs:=[.slice aa p0.Arena.Owner.length ai,.slice ab p0.Arena.Next.length ad,.slice ae p0.Prio.length ah]) I39 Z39 R R R (haC f26.cells R)) (Jg R (Jd2 (cs:=[.slice aj p1.Won.length ak,.slice ac p1.Plan.length af]) I34 Z34 R R R (haC f27.cells R)) (Jg R (Jd2 (cs:=[.slice aa p0.Arena.Owner.length ai,.slice ab p0.Arena.Next.length ad,.slice ae p0.Prio.length ah]) I39 Z39 R R R (haC f26.cells R)) (Jg R (Jd2 (cs:=[.slice aj p1.Won.length ak,.slice ac p1.Plan.length af]) I34 Z34 R R R (haC f27.cells R)) (Ob h fun x19 hx19 h=>?_))))
 have f66:=f42.stp (S49.tr S61) R R
 have f67:=f43.stp (S49.tr S61) R R
 refine Jh R R R C64 (s_RegionOf_ok (κ:=fun b=>mp [] 0 (K60 b)) (p0:=p1) (Jl2 f66 (mp [] 0) R R) (Jl2 f67 (mp [] 0) R R) hx19) ?_
 rintro _ w68 ⟨k69,ap,am,rfl,e70,f71⟩
 obtain⟨K72,S73,m74⟩:=Ji e70 14 R
 refine⟨((S35.tr (S49.tr (S61.tr S73))).cl R),Ob h fun x22 hx22 h=>?_⟩
 have f77:=f53.stp (S61.tr S73) R R
 have f78:=f54.stp (S61.tr S73) R R
 have f79:=f55.stp (S61.tr S73) R R
 refine Jh R R R C65 (s_l6Part_ok (κ:=fun b=>mp [] 0 (K72 b)) (p0:=p0) (p1:=p1) (Jl2 f77 (mp [] 0) R R) (Jl2 f78 (mp [] 0) R R) (Jl2 f79 (mp [] 0) R R) (Jl2 (f66.stp S73 R R) (mp [] 0) R R) (Jl2 (f67.stp S73 R R) (mp [] 0) R R) hx22) ?_
 rintro _ w82 ⟨k83,au,an,rfl,e84,f85⟩
 obtain⟨K86,S87,m88⟩:=Ji e84 17 R
 refine⟨((S35.tr (S49.tr (S61.tr (S73.tr S87)))).cl R),Ob h fun x23 hx23 h=>Jh R R R C63 (s_WinsBy_ok (κ:=fun b=>mp [] 0 (K86 b)) (p0:=p0) (Jl2 (f77.stp S87 R R) (mp [] 0) R R) (Jl2 (f78.stp S87 R R) (mp [] 0) R R) (Jl2 (f79.stp S87 R R) (mp [] 0) R R) (Jl2 ((f71.mx (no_int _) m74 R (R:14+2=16)).stp S87 R R).rdc (mp [] 0) R R) (Jl2 (f85.mx (no_int _) m88 R (R:17+2=19)).rdc (mp [] 0) R R) hx23) ?_⟩
 rintro _ w95 ⟨k96,rfl,e97⟩
 obtain⟨K98,S99,m100⟩:=Ji e97 20 R
 refine⟨((S35.tr (S49.tr (S61.tr (S73.tr (S87.tr S99))))).cl R),Jn 1 R ?_⟩
 cases h
 exact Jv1 _ ((S35.tr (S49.tr (S61.tr (S73.tr (S87.tr S99))))).cl R) ⟨R,_,(S73.tr (S87.tr S99)).wk R⟩ (KM R)
 rintro _ w102 _ ⟨rfl,K103,S104⟩
 have h:=hK64
 refine Jn 1 R (Jt1 (Jd (Ju (Ja2 (l:=[.tmp 4]) V27 (Jp2 R R) R ?_))))
 cases h
 exact⟨K103,R,(hE.stp (S3.tr (S7.tr (S19.tr (S24.tr (S35.tr (S49.tr (S61.tr S104))))))) R R)⟩
 refine JT fun h=>Jx R (Je [2] R (Jb 1 R (Ju (Jw (Ja2 (l:=[.tmp 4]) V27 (Jp2 R R) R ?_)))))
 cases h
 exact⟨K18,R,(hE.stp (S3.tr (S7.tr S19)) R R)⟩
end Go.Proofs.YtmiilifclnanlaaGreat
