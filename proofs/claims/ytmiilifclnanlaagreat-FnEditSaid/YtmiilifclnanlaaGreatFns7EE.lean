/- The walks, part 7. By program. -/
import Derived.Test.YtmiilifclnanlaaGreatFns3EE
import Derived.Test.YtmiilifclnanlaaGreatFns4EE
import Derived.Test.YtmiilifclnanlaaGreatFns5EE
set_option linter.unusedVariables false
set_option linter.unusedSimpArgs false
namespace Go.Proofs.YtmiilifclnanlaaGreat
open Go Go.Wk Go.Proofs
set_option maxRecDepth 100000
set_option maxHeartbeats 1000000
theorem s_l1Once_ok {w:World}{κ:Col}{ab aa}{p0:l1Cur}{p1:Int}{b0}(g0_0:Rd (Rp.int .u8) κ w 0 ab aa p0.b) (gb0:Bc κ w 2 b0 107 [.slice ab p0.b.length aa,vi p0.i,vi p0.h]){r:Bool×Int×Int}(h:s_l1Once p0 p1=some r):Ret Tryz.prog 71 [.pointer (some ⟨b0,0,none⟩),vi p1] w (fun v w'=>∃(κ':Col),v= .bool r.1∧Ent κ w κ' w'∧Bc κ' w' 2 b0 107 [.slice ab p0.b.length aa,vi r.2.1,vi r.2.2]):=by
 unfold s_l1Once at h
 refine Ret.enter F71 R N71 R ?_
 dsimp only[envOf]
 have hE:=Ent.refl κ w
 refine Je [2] R (Jb 1 R (Je [2,2,1,2,2] R (Jn 2 R (Ob h fun x7 hx7 h=>Jh R R R C69 (s_l1Below_ok (κ:=fun b=>mp [(2,2)] 0 (κ b)) (p0:=p0) (Jl2 g0_0 (mp [(2,2)] 0) R R) (gb0.map (mp [(2,2)] 0) R R) hx7) ?_))))
 rintro _ w1 ⟨k2,rfl,e3,f4⟩
 obtain⟨K5,S6,m7⟩:=Ji e3 3 R
 refine⟨tv,Jb 2 R (Ju (Ja2 (l:=[.tmp 4]) V71 (Jp2 R R) R ?_))⟩
 cases h
 exact⟨(fun b=>ren [(5,2)] (K5 b)),R,((hE.stp S6 R R).map (ren [(5,2)]) R R),((f4.mx m7 R (R:3+2=5)).map (ren [(5,2)]) R R)⟩
theorem s_l1Draw_ok {w:World}{κ:Col}{ab aa}{p0:l1Cur}{b0}(g0_0:Rd (Rp.int .u8) κ w 0 ab aa p0.b) (gb0:Bc κ w 2 b0 107 [.slice ab p0.b.length aa,vi p0.i,vi p0.h]){r:Arena×Int×Int}(h:s_l1Draw p0=some r):Ret Tryz.prog 137 [.pointer (some ⟨b0,0,none⟩)] w (fun v w'=>∃(κ':Col) (ra0:Option Addr) (ru0:Nat) (ra1:Option Addr) (ru1:Nat),v= .agg #[.slice ra0 r.1.Owner.length ru0,.slice ra1 r.1.Next.length ru1]∧Ent κ w κ' w'∧Oc E6 2 κ' w' 3 ra0 ru0 r.1.Owner∧Oc (Ep.own E6 2) 22 κ' w' 4 ra1 ru1 r.1.Next∧Bc κ' w' 2 b0 107 [.slice ab p0.b.length aa,vi r.2.1,vi r.2.2]):=by
 unfold s_l1Draw at h
 refine Ret.enter F137 R N137 R ?_
 dsimp only[envOf]
 have hE:=Ent.refl κ w
 refine Je [1] R (Jg1 (κ:=κ) 3 R R R R R X37 R fun b2 w1 K2 S3 f4=>⟨tv,Jd (Je [2,1,2,2] R (Jn 1 R (Ob h fun x9 hx9 h=>?_)))⟩)
 have f5:=g0_0.stp S3 R R
 refine Jh R R R C69 (s_l1Below_ok (κ:=fun b=>mp [(2,2)] 0 (K2 b)) (p0:=p0) (Jl2 f5 (mp [(2,2)] 0) R R) ((gb0.stp S3 R R).map (mp [(2,2)] 0) R R) hx9) ?_
 rintro _ w7 ⟨k8,rfl,e9,f10⟩
 obtain⟨K11,S12,m13⟩:=Ji e9 4 R
 refine⟨tv,Jb 2 R (Je [2,1,1] R (Jf R (rn_build (parts:=[]) (cells:=[.slice none 0 0,.slice none 0 0]) R R (by kernel_rfl)) (Jg1 (κ:=K11) 7 R R R R R X37 R fun b4 w16 K17 S18 f19=>⟨tv,Jj1 (κ:=K17) 7 (vc:=[.slice none 0 0,.slice none 0 0]) R R R R R R R Z37 R R f19 R fun w20 S21 f22=>⟨tv,Jd (Jq (Je [2] R (Jb 1 R (Ob h fun _ hr23 h=>?_))))⟩⟩)))⟩
 have hN23:=rng_ok hr23
 refine Ob h fun q2 hq25 hK24=>?_
 clear h
 refine Jx1 (fun L w'=>∃κ',∃s3:Int×Int×(List Int)×(List (List Int)),∃ae ac af ad,L=[(0,.pointer (some ⟨b0,0,none⟩)),(2,.pointer (some ⟨b2,0,none⟩)),(4,.pointer (some ⟨b4,0,none⟩))]∧Stp [6,7,8,9,10,13,16,18,20] K17 w20 κ' w'∧Oc E6 2 κ' w' 8 ae ac s3.2.2.1∧Oc (Ep.own E6 2) 22 κ' w' 9 af ad s3.2.2.2∧Bc κ' w' 6 b0 107 [.slice ab p0.b.length aa,vi s3.1,vi s3.2.1]∧Bc κ' w' 7 b4 37 [.slice ae s3.2.2.1.length ac,.slice af s3.2.2.2.length ad]∧q2=Sum.inr s3) ?_ ?_
 refine Jv (Jy1 (fun k L w'=>∃κ' v5,∃s1:Int×Int×(List Int)×(List (List Int)),∃aq an ai ah,L=[(0,.pointer (some ⟨b0,0,none⟩)),(2,.pointer (some ⟨b2,0,none⟩)),(3,vi (IntKind.i64.wrap (1+x9.1))),(4,.pointer (some ⟨b4,0,none⟩)),(5,vi v5)]∧Stp [6,7,8,9,10,13,16,18,20] K17 w20 κ' w'∧Oc E6 2 κ' w' 8 aq an s1.2.2.1∧Oc (Ep.own E6 2) 22 κ' w' 9 ai ah s1.2.2.2∧Bc κ' w' 6 b0 107 [.slice ab p0.b.length aa,vi s1.1,vi s1.2.1]∧Bc κ' w' 7 b4 37 [.slice aq s1.2.2.1.length an,.slice ai s1.2.2.2.length ah]∧0≤v5∧Int.toNat ((IntKind.i64.wrap (1+x9.1))-v5)=k∧cntM (s_l1Draw_b0 p0 x9) k v5 s1=some q2) ⟨_,_,⟨K17,0,((x9.2.1:Int),(x9.2.2:Int),(([]:List Int):(List Int)),(([]:List (List Int)):(List (List Int)))),none,0,none,0,R,(Jx2 _ _).wk R,Ow.nil,Ow.nil,((f10.mx m13 R (R:4+2=6)).stp (S18.tr S21) R R),f22,(by decide),(by simp),hq25⟩,(KM R)⟩ ?_)
 rintro k _ w33 ⟨K34,v5,s1,aq,an,ai,ah,rfl,S35,f36,f37,f38,f39,hj23,hJ23,h⟩
 rcases k with _ | k
 have hk41:=h;obtain⟨o23,h⟩:=ex_eq (Sum.inr (Sum.inl s1):(Arena×Int×Int)⊕((Int×Int×(List Int)×(List (List Int)))⊕(Int×Int×(List Int)×(List (List Int)))))
 have hc23:decide (v5<(IntKind.i64.wrap (1+x9.1)))=false:=Jo2 (by omega)
 refine Jq (Je [2,2,2] R (Jb 3 R (Jw2 R hc23 (Jc1 (Jt (Jt ?_))))))
 cases h
 have h:=hk41
 refine Jb1 ?_
 cases h
 exact Jw1 _ ⟨K34,((s1.1:Int),(s1.2.1:Int),(s1.2.2.1:(List Int)),(s1.2.2.2:(List (List Int)))),aq,an,ai,ah,R,S35.wk R,f36,f37,f38,f39,R⟩ (KM R)
 obtain⟨o23,h,hk41⟩:=BI h;unfold s_l1Draw_b0 at h
 have hc23:decide (v5<(IntKind.i64.wrap (1+x9.1)))=true:=Jn2 (by omega)
 refine Jq (Je [2,2,2] R (Jb 3 R (Jv2 R hc23 (Js (Jp (Jq (Jv (Je [1,2] R (Jo1 (κ:=K34) (E:=E6) 10 R R R R R Y22 Tryzinfo2 R fun ay av w42 K43 S44 f45=>⟨tv,Jb 1 R (Jq (Je [2,1,2,2] R (Jn 1 R (Ob h fun x19 hx19 h=>?_))))⟩)))))))))
 have f46:=f5.stp (S12.tr (S18.tr (S21.tr (S35.tr S44)))) R R
 refine Jh R R R C69 (s_l1Below_ok (κ:=fun b=>mp [(6,2)] 0 (K43 b)) (p0:=(⟨p0.b,s1.1,s1.2.1⟩:l1Cur)) (Jl2 f46 (mp [(6,2)] 0) R R) ((f38.stp S44 R R).map (mp [(6,2)] 0) R R) hx19) ?_
 rintro _ w48 ⟨k49,rfl,e50,f51⟩
 obtain⟨K52,S53,m54⟩:=Ji e50 11 R
 refine⟨tv,Jb 2 R (Ob h fun q5 hq59 hK58=>?_)⟩
 clear h
 refine Jx1 (fun L w'=>∃κ',∃s6:(List Int)×Int×Int×Int,∃aj ak,L=[(0,.pointer (some ⟨b0,0,none⟩)),(2,.pointer (some ⟨b2,0,none⟩)),(3,vi (IntKind.i64.wrap (1+x9.1))),(4,.pointer (some ⟨b4,0,none⟩)),(5,vi v5),(6,.slice aj s6.1.length ak)]∧Stp [10,13,16,20] K52 w48 κ' w'∧Oc E6 2 κ' w' 10 aj ak s6.1∧Bc κ' w' 13 b0 107 [.slice ab p0.b.length aa,vi s6.2.2.1,vi s6.2.2.2]∧q5=Sum.inr s6) ?_ ?_
 refine Jv (Jy1 (fun k L w'=>∃κ',∃s4:(List Int)×Int×Int×Int,∃ap ao,L=[(0,.pointer (some ⟨b0,0,none⟩)),(2,.pointer (some ⟨b2,0,none⟩)),(3,vi (IntKind.i64.wrap (1+x9.1))),(4,.pointer (some ⟨b4,0,none⟩)),(5,vi v5),(6,.slice ap s4.1.length ao),(7,vi s4.2.1)]∧Stp [10,13,16,20] K52 w48 κ' w'∧Oc E6 2 κ' w' 10 ap ao s4.1∧Bc κ' w' 13 b0 107 [.slice ab p0.b.length aa,vi s4.2.2.1,vi s4.2.2.2]∧whileM (s_l1Draw_b2 p0 x9) k s4=some q5) ⟨_,_,⟨K52,((([]:List Int):(List Int)),((IntKind.i64.wrap (1+x19.1)):Int),(x19.2.1:Int),(x19.2.2:Int)),ay,av,R,(Jx2 _ _).wk R,(f45.stp S53 R R),(f51.mx m54 R (R:11+2=13)),hq59⟩,(KM R)⟩ ?_)
 rintro k _ w65 ⟨K66,s4,ap,ao,rfl,S67,f68,f69,h⟩
 rcases k with _ | k
 cases h
 obtain⟨o57,h,hk71⟩:=BI h;unfold s_l1Draw_b2 at h
 refine Jq (Je [2,2] R (Jb 2 R ?_))
 revert h
 cases ht72:decide (0<s4.2.1)
 refine JF fun h=>Jy R (Jc1 (Jt (Jt ?_)))
 cases h
 have h:=hk71
 refine Jb1 ?_
 cases h
 exact Jw1 _ ⟨K66,((s4.1:(List Int)),(s4.2.1:Int),(s4.2.2.1:Int),(s4.2.2.2:Int)),ap,ao,R,S67.wk R,f68,f69,R⟩ (KM R)
 refine JT fun h=>Jx R (Js (Jp (Jq (Jv (Ja [2,2,2,1,1,2] R (Jn 3 R (Ob h fun x28 hx28 h=>Jh R R R C69 (s_l1Below_ok (κ:=fun b=>mp [(13,2)] 0 (K66 b)) (p0:=(⟨p0.b,s4.2.2.1,s4.2.2.2⟩:l1Cur)) (Jl2 (f46.stp (S53.tr S67) R R) (mp [(13,2)] 0) R R) (f69.map (mp [(13,2)] 0) R R) hx28) ?_)))))))
 rintro _ w74 ⟨k75,rfl,e76,f77⟩
 obtain⟨K78,S79,m80⟩:=Ji e76 14 R
 refine⟨tv,Ob h fun x29 hx29 h=>Jh R R R C78 (s_l1Into__own0_ok (κ:=fun b=>mp [(10,2)] 0 (K78 b)) ((f68.stp S79 R R).map (mp [(10,2)] 0) R R) hx29) ?_⟩
 rintro _ w84 ⟨k85,ax,aw,rfl,e86,f87⟩
 obtain⟨K88,S89,m90⟩:=Ji e86 17 R
 refine⟨tv,Jc 1 R (Jz (Jp (Ja [2,2,2] R (Jc 3 R ?_))))⟩
 cases h
 exact Jz1 fun a ha=>⟨k,_,Ja3 _,⟨(fun b=>ren [(20,10),(16,13)] (K88 b)),((x29:(List Int)),((IntKind.i64.wrap (s4.2.1-1)):Int),(x28.2.1:Int),(x28.2.2:Int)),ax,aw,R,(Jy2 ((S67.tr (S79.tr S89)).wk R) [(20,10),(16,13)] R),((f87.mx (no_int _) m90 R (R:17+3=20)).map (ren [(20,10),(16,13)]) R R),(((f77.mx m80 R (R:14+2=16)).stp S89 R R).map (ren [(20,10),(16,13)]) R R),hk71⟩,(ha.mm R)⟩
 rintro _ w60 ⟨K61,s6,aj,ak,rfl,S62,f63,f64,rfl⟩
 have h:=hK58
 dsimp only[aft]at h
 refine Jp (Jq (Js1 (κ:=K61) [7] (some 7) [(0,2),(2,2),(1,0),(3,1),(4,1),(5,1),(6,2)] [(7,1)] (by kernel_rfl) (by kernel_rfl) fun w95 S94=>Jf R (Jb2 U37 R Z22 R R) (Jn 1 R ?_)))
 have f96:=f39.stp (S44.tr (S53.tr (S62.tr S94))) R R
 refine Jg R (Jc2 I22 R R (hvC (f96.ld 0 R R) R)) (Ob h fun x33 hx33 h=>Jh R R R C69 (s_l1Below_ok (κ:=fun b=>mp [(13,2)] 0 (K61 b)) (p0:=(⟨p0.b,s6.2.2.1,s6.2.2.2⟩:l1Cur)) (Jl2 (f46.stp (S53.tr (S62.tr S94)) R R) (mp [(13,2)] 0) R R) ((f64.stp S94 R R).map (mp [(13,2)] 0) R R) hx33) ?_)
 rintro _ w99 ⟨k100,rfl,e101,f102⟩
 obtain⟨K103,S104,m105⟩:=Ji e101 14 R
 have S001:=(S44.tr (S53.tr (S62.tr (S94.tr S104))))
 refine⟨(S104.cl R),Jn1 (κ:=K103) (E:=E6) 17 [] (parts:=[(0,.tmp 33)]) (cells:=[vi x33.1]) (xs:=([x33.1]:List Int)) R R R R R R Y22 Tryzinfo2 R R R R R R R R R R ⟨[vi x33.1],[],Zl K103 w99 [],Zl K103 w99 [],R,Zl.sp (l1:=[]) (l2:=[]) R,Zl.sr (l1:=[]) (l2:=[]),R,R⟩ fun az aA w108 K109 S110 f111=>⟨((S104.tr S110).cl R),Ob h fun x35 hx35 h=>Jm1 (κ:=K109) (E:=E6) 8 [] R R R R R R R R R Y22 Tryzinfo2 R R R R (f36.stp (S001.tr S110) R R) (Sl.srcP (pu_int _) f111.rdc) sy_false hx35 R fun am al w113 K114 S115 f116=>⟨((S104.tr (S110.tr S115)).cl R),Jf R (Jb2 U37 R Z22 R R) (Jt1 (Ji1 (κ:=K114) 7 (off:=0) (vc:=[.slice am x35.length al]) (cs':=[.slice am x35.length al,.slice ai s1.2.2.2.length ah]) R R R R R R R Z22 R R (f96.stp (S104.tr (S110.tr S115)) R R) R R fun w118 S119 f120=>⟨tv,Jd (Ja [2,1,2,1,1,2,1] R (Jf R (Jb2 U37 R Z23 R R) (Jl tv R R R R (Jc2 I23 R R (hvE (f120.ld 1 R R))) (Jn 1 R (Jn1 (κ:=K114) (E:=(Ep.own E6 2)) 18 [10] (parts:=[(0,.tmp 39)]) (cells:=[.slice aj s6.1.length ak]) (xs:=([s6.1]:List (List Int))) R R R R R R Y23 Tryzinfo22 R R R R R R R R R R ⟨[.slice aj s6.1.length ak],[],Zl K114 w118 [10],Zl K114 w118 [],R,Zl.sp (l1:=[10]) (l2:=[]) R,Zl.sr (l1:=[10]) (l2:=[]),⟨_,_,R,(f63.stp (S94.tr (S104.tr (S110.tr (S115.tr S119)))) R R)⟩,R⟩ fun aB aC w122 K123 S124 f125=>⟨tv,Ob h fun x41 hx41 h=>Jm1 (κ:=K123) (E:=(Ep.own E6 2)) 9 [18] R R R R R R R R R Y23 Tryzinfo22 R R R R (f37.stp (S001.tr (S110.tr (S115.tr (S119.tr S124)))) R R) f125.src (sy_one R) hx41 R fun ar au w127 K128 S129 f130=>⟨tv,Jf R (Jb2 U37 R Z23 R R) (Ji1 (κ:=K128) 7 (off:=1) (vc:=[.slice ar x41.length au]) (cs':=[.slice am x35.length al,.slice ar x41.length au]) R R R R R R R Z23 R R (f120.stp (S124.tr S129) R R) R R fun w132 S133 f134=>⟨tv,Jo (Jz (Jp (Ja [2,2,2] R (Jc 3 R ?_))))⟩)⟩⟩)))))⟩))⟩⟩⟩
 have hw23:IntKind.wrap .i64 (v5+1)=v5+1:=wr1 hj23 (Jm2 hc23) hN23
 rw[hw23]
 have hc23:=Jm2 hc23
 cases h
 exact Jz1 fun a ha=>⟨k,_,Ja3 _,⟨(fun b=>ren [(16,6)] (K128 b)),v5+1,((x33.2.1:Int),(x33.2.2:Int),(x35:(List Int)),(x41:(List (List Int)))),am,al,ar,au,R,(Jy2 ((S35.tr (S44.tr (S53.tr (S62.tr (S94.tr (S104.tr (S110.tr (S115.tr (S119.tr (S124.tr (S129.tr S133))))))))))).wk R) [(16,6)] R),((f116.stp (S119.tr (S124.tr (S129.tr S133))) R R).map (ren [(16,6)]) R R),((f130.stp S133 R R).map (ren [(16,6)]) R R),(((f102.mx m105 R (R:14+2=16)).stp (S110.tr (S115.tr (S119.tr (S124.tr (S129.tr S133))))) R R).map (ren [(16,6)]) R R),(f134.map (ren [(16,6)]) R R),by omega,by omega,hk41⟩,(ha.mm R)⟩
 rintro _ w26 ⟨K27,s3,ae,ac,af,ad,rfl,S28,f29,f30,f31,f32,rfl⟩
 have h:=hK24
 dsimp only[aft]at h
 refine Jp (Je [1,1] R (Jl tv R R R R (Jd2 (cs:=[.slice ae s3.2.2.1.length ac,.slice af s3.2.2.2.length ad]) I37 Z37 R R R (haE f32.cells)) (Jj1 (κ:=K27) 3 (vc:=[.slice ae s3.2.2.1.length ac,.slice af s3.2.2.2.length ad]) R R R R R R R Z37 R R (f4.stp (S12.tr (S18.tr (S21.tr S28))) R R) R fun w139 S140 f141=>⟨tv,Jd (Ju (Ja2 (l:=[.cell 2 37]) V137 (res_cellA R f141 I37 Z37 R R) R ?_))⟩)))
 cases h
 exact⟨(fun b=>ren [(8,3),(9,4),(6,2)] (K27 b)),ae,ac,af,ad,R,((hE.stp (S3.tr (S12.tr (S18.tr (S21.tr (S28.tr S140))))) R R).map (ren [(8,3),(9,4),(6,2)]) R R),((f29.stp S140 R R).map (ren [(8,3),(9,4),(6,2)]) R R),((f30.stp S140 R R).map (ren [(8,3),(9,4),(6,2)]) R R),((f31.stp S140 R R).map (ren [(8,3),(9,4),(6,2)]) R R)⟩
theorem i_ParityOk_ok {w:World}{κ:Col}{ac af ad ae aa ab}{p0:Parity}(g0_0_0:Rd (Rp.int .i64) κ w 0 ac af p0.Arena.Owner) (g0_0_1:Rd (Rp.sl (Rp.int .i64)) κ w 0 ad ae p0.Arena.Next) (g0_1:Rd (Rp.int .i64) κ w 0 aa ab p0.Prio){r:Bool}(h:i_ParityOk p0=some r):Ret Tryz.prog 54 [.agg #[.slice ac p0.Arena.Owner.length af,.slice ad p0.Arena.Next.length ae,.slice aa p0.Prio.length ab]] w (fun v w'=>∃(κ':Col),v= .bool r∧Ent κ w κ' w'):=by
 unfold i_ParityOk at h
 refine Ret.enter F54 R N54 R ?_
 dsimp only[envOf]
 have hE:=Ent.refl κ w
 refine Je [1,2] R (Jf1 (κ:=κ) 2 R R R R R R R fun b1 w1 K2 S3 f4=>⟨tv,Jb 1 R (Jq (Je [2,1,1,2,2,2,1,2,2,2,1,2,2,2] R (Jf R (Jb2 U39 R Z37 R R) (Jl tv R R R R (Jd2 (cs:=[.slice ac p0.Arena.Owner.length af,.slice ad p0.Arena.Next.length ae]) I37 Z37 R R R (haE (f4.lds 0 2 R))) (Ob h fun x7 hx7 h=>Jh R R R C94 (i_ArenaOk_ok (κ:=fun b=>mp [] 0 (K2 b)) (p0:=p0.Arena) (Jl2 (g0_0_0.stp S3 R R) (mp [] 0) R R) (Jl2 (g0_0_1.stp S3 R R) (mp [] 0) R R) hx7) ?_)))))⟩)
 rintro _ w7 ⟨k8,rfl,e9⟩
 obtain⟨K10,S11,m12⟩:=Ji e9 3 R
 refine⟨tv,Jn 2 R (Ob h fun p18 h hK14=>Ju1 [(5,2),(6,1),(7,2),(8,2),(9,2),(10,1),(11,2),(12,2),(13,2)] [] (fun L w'=>L=[(1,.pointer (some ⟨b1,0,none⟩)),(18,.bool p18)]∧∃κ',Stp [] K10 w7 κ' w') tv ?_ ?_)⟩
 revert h
 cases ht15:(!x7)
 refine JF fun h=>Jf R (Jb2 U39 R Z22 R R) ?_
 have f16:=f4.stp S11 R R
 refine Jl tv R R R R (Jc2 I22 R R (hvE (f16.ld 2 R R))) (Jf R (Je2 U22 R R) (Jf R (Jb2 U39 R Z37 R R) (Jf R (Jb2 U37 R Z22 R R) (Jl tv R R R R (Jc2 I22 R R (hvE (f16.ld 0 R R))) (Jf R (Je2 U22 R R) (Jn 2 R ?_))))))
 cases h
 exact Jv1 _ tv ⟨R,_,(Jx2 _ _).wk R⟩ (KM R)
 refine JT fun h=>Jn 1 R (Jd1 R R R R (Jn 3 R (Jd1 R R R R (Jn 3 R ?_))))
 cases h
 exact Jv1 _ tv ⟨R,_,(Jx2 _ _).wk R⟩ (KM R)
 rintro _ w17 _ ⟨rfl,K18,S19⟩
 have h:=hK14
 refine Jd ?_
 revert h
 cases ht20:p18
 refine JF fun h=>Jy R (Js (Jp (Jq (Je [2,1,2,2] R (Jf R (Jb2 U39 R Z22 R R) (Jl tv R R R R (Jc2 I22 R R (hvE ((f4.stp (S11.tr S19) R R).ld 2 R R))) (Jf R (Je2 U22 R R) (Jb 1 R ?_))))))))
 have hN23:(p0.Prio.length:Int)≤9223372036854775807:=g0_1.len_le
 refine Ob h fun q2 hq25 hK24=>?_
 clear h
 refine Jx1 (fun L w'=>∃κ',L=[]∧Stp [] K18 w17 κ' w'∧q2=Sum.inr ()) ?_ ?_
 refine Jv (Jy1 (fun k L w'=>∃κ' v22,L=[(20,.slice aa p0.Prio.length ab),(21,vi (p0.Prio.length:Int)),(22,vi v22)]∧Stp [] K18 w17 κ' w'∧0≤v22∧Int.toNat ((p0.Prio.length:Int)-v22)=k∧cntM (i_ParityOk_b0 p0) k v22 ()=some q2) ⟨_,_,⟨K18,0,R,(Jx2 _ _).wk R,(by decide),(by simp),hq25⟩,(KM R)⟩ ?_)
 rintro k _ w29 ⟨K30,v22,rfl,S31,hj23,hJ23,h⟩
 rcases k with _ | k
 have hk32:=h;obtain⟨o23,h⟩:=ex_eq (Sum.inr (Sum.inl ()):Bool⊕((Unit)⊕(Unit)))
 have hc23:decide (v22<(p0.Prio.length:Int))=false:=Jo2 (by omega)
 refine Je [2] R (Jb 1 R (Jq (Jw2 R hc23 (Jc1 (Jt (Jt ?_))))))
 cases h
 have h:=hk32
 refine Jb1 ?_
 cases h
 exact Jw1 _ ⟨K30,R,S31.wk R,R⟩ KN
 obtain⟨o23,h,hk32⟩:=BI h;unfold i_ParityOk_b0 at h
 have hc23:decide (v22<(p0.Prio.length:Int))=true:=Jn2 (by omega)
 refine Je [2] R (Jb 1 R (Jq (Jv2 R hc23 (Js (Jp (Jq (Jv (Je [2,1,2] R (Ob h fun x24 hx24 h=>Jf R (Jf2 g0_1 hx24 U22 Z2 R R R R) (Jl tv R R R R (Jc2 I2 R R (hvE ((g0_1.stp (S3.tr (S11.tr (S19.tr S31))) R R).gInt hx24))) (Jb 1 R (Je [2,2,2,2,2,2] R (Jn 3 R (Ob h fun p31 h hK34=>Ju1 [(3,2),(4,2),(5,2)] [] (fun L w'=>L=[(20,.slice aa p0.Prio.length ab),(21,vi (p0.Prio.length:Int)),(22,vi v22),(31,.bool p31)]∧∃κ',Stp [] K30 w29 κ' w') tv ?_ ?_))))))))))))))
 revert h
 cases ht35:decide (x24<0)
 refine JF fun h=>Jn 3 R ?_
 cases h
 exact Jv1 _ tv ⟨R,_,(Jx2 _ _).wk R⟩ (KM R)
 refine JT fun h=>Jn 3 R ?_
 cases h
 exact Jv1 _ tv ⟨R,_,(Jx2 _ _).wk R⟩ (KM R)
 rintro _ w36 _ ⟨rfl,K37,S38⟩
 have h:=hK34
 refine Jd ?_
 revert h
 cases ht39:p31
 refine JF fun h=>Jy R (Js (Jz (Jp (Ja [2,2] R (Jc 2 R ?_)))))
 have hw23:IntKind.wrap .i64 (v22+1)=v22+1:=wr1 hj23 (Jm2 hc23) hN23
 rw[hw23]
 have hc23:=Jm2 hc23
 cases h
 exact Jz1 fun a ha=>⟨k,_,Ja3 _,⟨K37,v22+1,R,(S31.tr S38).wk R,by omega,by omega,hk32⟩,(ha.mm R)⟩
 refine JT fun h=>Jx R (Je [2] R (Jb 1 R (Ju (Ja1 (Jw (Jw ?_))))))
 cases h
 obtain rfl:=Option.some.inj hk32
 have h:=hK24
 dsimp only[aft]at h
 refine Ja1 (Jq2 (Jw (Ja2 (l:=[.tmp 2]) V54 (Jp2 R R) R ?_)))
 cases h
 exact⟨K37,R,(hE.stp (S3.tr (S11.tr (S19.tr (S31.tr S38)))) R R)⟩
 rintro _ w26 ⟨K27,rfl,S28,rfl⟩
 have h:=hK24
 dsimp only[aft]at h
 refine Jp (Je [2] R (Jb 1 R (Ju (Ja2 (l:=[.tmp 2]) V54 (Jp2 R R) R ?_))))
 cases h
 exact⟨K27,R,(hE.stp (S3.tr (S11.tr (S19.tr S28))) R R)⟩
 refine JT fun h=>Jx R (Je [2] R (Jb 1 R (Ju (Jw (Ja2 (l:=[.tmp 2]) V54 (Jp2 R R) R ?_)))))
 cases h
 exact⟨K18,R,(hE.stp (S3.tr (S11.tr S19)) R R)⟩
theorem i_isEdit_ok {w:World}{κ:Col}{aa ad ab ac ae af}{p0:Parity}{p1:Edit}(g0_0_0:Rd (Rp.int .i64) κ w 0 aa ad p0.Arena.Owner) (g0_0_1:Rd (Rp.sl (Rp.int .i64)) κ w 0 ab ac p0.Arena.Next) (g0_1:Rd (Rp.int .i64) κ w 0 ae af p0.Prio){r:Bool}(h:i_isEdit p0 p1=some r):Ret Tryz.prog 42 [.agg #[.slice aa p0.Arena.Owner.length ad,.slice ab p0.Arena.Next.length ac,.slice ae p0.Prio.length af],.agg #[vi p1.Kind,vi p1.V,vi p1.N]] w (fun v w'=>∃(κ':Col),v= .bool r∧Ent κ w κ' w'):=by
 unfold i_isEdit at h
 refine Ret.enter F42 R N42 R ?_
 dsimp only[envOf]
 have hE:=Ent.refl κ w
 refine Je [1,1,2] R (Jf1 (κ:=κ) 2 R R R R R R R fun b2 w1 K2 S3 f4=>⟨tv,Jf1 (κ:=K2) 3 R R R R R R R fun b3 w5 K6 S7 f8=>⟨tv,Jb 1 R (Jq (Je [2,1,2,1,1,2] R (Jf R (Jb2 U39 R Z37 R R) ?_)))⟩⟩)
 have f9:=f4.stp S7 R R
 refine Jl tv R R R R (Jd2 (cs:=[.slice aa p0.Arena.Owner.length ad,.slice ab p0.Arena.Next.length ac]) I37 Z37 R R R (haE (f9.lds 0 2 R))) (Jf R (Jb2 U42 R Z2 R R) (Jl tv R R R R (Jc2 I2 R R (hvE (f8.ld 1 R R))) (Ob h fun x10 hx10 h=>?_)))
 have f10:=g0_0_0.stp (S3.tr S7) R R
 have f11:=g0_0_1.stp (S3.tr S7) R R
 refine Jh R R R C84 (i_hasVertex_ok (κ:=fun b=>mp [] 0 (K6 b)) (p0:=p0.Arena) (Jl2 f10 (mp [] 0) R R) (Jl2 f11 (mp [] 0) R R) hx10) ?_
 rintro _ w12 ⟨k13,rfl,e14⟩
 obtain⟨K15,S16,m17⟩:=Ji e14 4 R
 refine⟨tv,Jb 1 R ?_⟩
 revert h
 cases ht19:(!x10)
 refine JF fun h=>Jy R (Js (Jp (Je [2,2,1,2,1,2,1,2] R (Jf R (Jb2 U39 R Z37 R R) (Jf R (Jb2 U37 R Z23 R R) ?_)))))
 have f21:=f9.stp S16 R R
 refine Jl tv R R R R (Jc2 I23 R R (hvE (f21.ld 1 R R))) (Jf R (Jb2 U42 R Z2 R R) ?_)
 have f22:=f8.stp S16 R R
 refine Jl tv R R R R (Jc2 I2 R R (hvE (f22.ld 1 R R))) (Ob h fun x17 hx17 h=>Jf R (Jf2 f11 hx17 U23 Z22 R R R R) ?_)
 have f23:=f11.stp S16 R R
 obtain⟨ax17,ux17,f24,hl25⟩:=f23.gSl hx17
 refine Jl tv R R R R (Jc2 I22 R R (hvE hl25)) (Jb 1 R (Jq (Je [2,1] R (Jf R (Jb2 U42 R Z2 R R) (Jl tv R R R R (Jc2 I2 R R (hvE (f22.ld 0 R R))) (Jd (Jv (Je [2,2] R (Jb 2 R ?_)))))))))
 revert h
 cases ht26:(p1.Kind==1)
 refine JF fun h=>Jy R (Je [2,2] R (Jb 2 R ?_))
 revert h
 cases ht33:(p1.Kind==2)
 refine JF fun h=>Jy R (Je [2,2] R (Jb 2 R ?_))
 revert h
 cases ht42:(p1.Kind==3)
 refine JF fun h=>Jy R (Je [2,2] R (Jb 2 R ?_))
 revert h
 cases ht71:(p1.Kind==4)
 refine JF fun h=>Jy R (Js (Jz (Jp (Je [2] R (Jb 1 R (Ju (Ja2 (l:=[.tmp 4]) V42 (Jp2 R R) R ?_)))))))
 cases h
 exact⟨K15,R,(hE.stp (S3.tr (S7.tr S16)) R R)⟩
 refine JT fun h=>Jx R (Je [2,2,1,1,2,2,2,2,2,2] R (Jn 1 R (Jf R (Jb2 U42 R Z2 R R) (Jl tv R R R R (Jc2 I2 R R (hvE (f22.ld 2 R R))) (Ob h fun x60 hx60 h=>Jh R R R C86 (slices_Contains_I_int64_ok (κ:=fun b=>mp [] 0 (K15 b)) (Jl2 f24 (mp [] 0) R R) hx60) ?_)))))
 rintro _ w72 ⟨k73,rfl,e74⟩
 obtain⟨K75,S76,m77⟩:=Ji e74 6 R
 refine⟨tv,Jn 1 R (Ob h fun p65 h hK79=>Ju1 [(5,2),(6,2),(7,2),(8,2)] [(9,2)] (fun L w'=>L=[(4,.bool false),(65,.bool p65)]∧∃κ',Stp [] K75 w72 κ' w') tv ?_ ?_)⟩
 revert h
 cases ht80:x60
 refine JF fun h=>Jn 4 R ?_
 cases h
 exact Jv1 _ tv ⟨R,_,(Jx2 _ _).wk R⟩ (KM R)
 refine JT fun h=>Jn 1 R (Jf R (Je2 U22 R R) (Jn 2 R ?_))
 cases h
 exact Jv1 _ tv ⟨R,_,(Jx2 _ _).wk R⟩ (KM R)
 rintro _ w81 _ ⟨rfl,K82,S83⟩
 have h:=hK79
 refine Jb 1 R (Ju (Ja1 (Jw (Ja2 (l:=[.tmp 4]) V42 (Jp2 R R) R ?_))))
 cases h
 exact⟨K82,R,(hE.stp (S3.tr (S7.tr (S16.tr (S76.tr S83)))) R R)⟩
 refine JT fun h=>Jx R (Je [2,1,2,1,1,2,2,2,1,1,2,2,2,2,2,2,2,2] R (Jf R (Jb2 U39 R Z37 R R) (Jl tv R R R R (Jd2 (cs:=[.slice aa p0.Arena.Owner.length ad,.slice ab p0.Arena.Next.length ac]) I37 Z37 R R R (haE (f21.lds 0 2 R))) (Jf R (Jb2 U42 R Z2 R R) (Jl tv R R R R (Jc2 I2 R R (hvE (f22.ld 2 R R))) (Ob h fun x42 hx42 h=>Jh R R R C84 (i_hasVertex_ok (κ:=fun b=>mp [] 0 (K15 b)) (p0:=p0.Arena) (Jl2 (f10.stp S16 R R) (mp [] 0) R R) (Jl2 f23 (mp [] 0) R R) hx42) ?_))))))
 rintro _ w44 ⟨k45,rfl,e46⟩
 obtain⟨K47,S48,m49⟩:=Ji e46 6 R
 refine⟨tv,Jn 1 R (Ob h fun p49 h hK51=>Ju1 [(6,2),(7,2),(8,1),(9,1),(10,2),(11,2)] [(12,2),(13,2),(14,2),(15,2),(16,2),(17,2)] (fun L w'=>L=[(4,.bool false),(5,.slice ax17 x17.length ux17),(49,.bool p49)]∧∃κ',Stp [] K47 w44 κ' w') tv ?_ ?_)⟩
 revert h
 cases ht52:x42
 refine JF fun h=>Jn 2 R (Jd1 R R R R (Jd1 R R R R (Jn 2 R ?_)))
 cases h
 exact Jv1 _ tv ⟨R,_,(Jx2 _ _).wk R⟩ (KM R)
 refine JT fun h=>Jn 1 R (Jf R (Jb2 U42 R Z2 R R) (Jl tv R R R R (Jc2 I2 R R (hvE ((f22.stp S48 R R).ld 2 R R))) (Ob h fun x47 hx47 h=>Jh R R R C86 (slices_Contains_I_int64_ok (κ:=fun b=>mp [] 0 (K47 b)) (Jl2 (f24.stp S48 R R) (mp [] 0) R R) hx47) ?_)))
 rintro _ w55 ⟨k56,rfl,e57⟩
 obtain⟨K58,S59,m60⟩:=Ji e57 8 R
 refine⟨tv,Jn 2 R ?_⟩
 cases h
 exact Jv1 _ tv ⟨R,_,S59.wk R⟩ (KM R)
 rintro _ w62 _ ⟨rfl,K63,S64⟩
 have h:=hK51
 refine Jn 1 R (Ob h fun p54 h hK65=>Ju1 [(13,2),(14,2),(15,2),(16,2)] [(17,2)] (fun L w'=>L=[(4,.bool false),(54,.bool p54)]∧∃κ',Stp [] K63 w62 κ' w') tv ?_ ?_)
 revert h
 cases ht66:p49
 refine JF fun h=>Jn 4 R ?_
 cases h
 exact Jv1 _ tv ⟨R,_,(Jx2 _ _).wk R⟩ (KM R)
 refine JT fun h=>Jn 1 R (Jf R (Je2 U22 R R) (Jn 2 R ?_))
 cases h
 exact Jv1 _ tv ⟨R,_,(Jx2 _ _).wk R⟩ (KM R)
 rintro _ w67 _ ⟨rfl,K68,S69⟩
 have h:=hK65
 refine Jb 1 R (Ju (Ja1 (Jw (Ja2 (l:=[.tmp 4]) V42 (Jp2 R R) R ?_))))
 cases h
 exact⟨K68,R,(hE.stp (S3.tr (S7.tr (S16.tr (S48.tr (S64.tr S69))))) R R)⟩
 refine JT fun h=>Jx R (Je [2,1,1,2] R (Jf R (Jb2 U42 R Z2 R R) (Jl tv R R R R (Jc2 I2 R R (hvE (f22.ld 2 R R))) (Ob h fun x35 hx35 h=>Jh R R R C85 (i_isPlayer_ok (κ:=fun b=>mp [] 0 (K15 b)) hx35) ?_))))
 rintro _ w34 ⟨k35,rfl,e36⟩
 obtain⟨K37,S38,m39⟩:=Ji e36 6 R
 refine⟨tv,Jb 1 R (Ju (Ja1 (Jw (Ja2 (l:=[.tmp 4]) V42 (Jp2 R R) R ?_))))⟩
 cases h
 exact⟨K37,R,(hE.stp (S3.tr (S7.tr (S16.tr S38))) R R)⟩
 refine JT fun h=>Jx R (Je [2,1,2,2,2,1,2,2,2] R (Jf R (Jb2 U42 R Z2 R R) (Jl tv R R R R (Jc2 I2 R R (hvE (f22.ld 2 R R))) (Jn 2 R (Ob h fun p30 h hK27=>Ju1 [(4,2),(5,1),(6,2),(7,2)] [(8,2)] (fun L w'=>L=[(4,.bool false),(30,.bool p30)]∧∃κ',Stp [] K15 w12 κ' w') tv ?_ ?_)))))
 revert h
 cases ht28:decide (0≤p1.N)
 refine JF fun h=>Jn 1 R (Jd1 R R R R (Jn 2 R ?_))
 cases h
 exact Jv1 _ tv ⟨R,_,(Jx2 _ _).wk R⟩ (KM R)
 refine JT fun h=>Jf R (Jb2 U42 R Z2 R R) (Jl tv R R R R (Jc2 I2 R R (hvE (f22.ld 2 R R))) (Jn 2 R ?_))
 cases h
 exact Jv1 _ tv ⟨R,_,(Jx2 _ _).wk R⟩ (KM R)
 rintro _ w29 _ ⟨rfl,K30,S31⟩
 have h:=hK27
 refine Jb 1 R (Ju (Ja1 (Jw (Ja2 (l:=[.tmp 4]) V42 (Jp2 R R) R ?_))))
 cases h
 exact⟨K30,R,(hE.stp (S3.tr (S7.tr (S16.tr S31))) R R)⟩
 refine JT fun h=>Jx R (Je [2] R (Jb 1 R (Ju (Jw (Ja2 (l:=[.tmp 4]) V42 (Jp2 R R) R ?_)))))
 cases h
 exact⟨K15,R,(hE.stp (S3.tr (S7.tr S16)) R R)⟩
theorem i_copyParity_ok {w:World}{κ:Col}{an am al ao aq ap}{p0:Parity}(g0_0_0:Rd (Rp.int .i64) κ w 0 an am p0.Arena.Owner) (g0_0_1:Rd (Rp.sl (Rp.int .i64)) κ w 0 al ao p0.Arena.Next) (g0_1:Rd (Rp.int .i64) κ w 0 aq ap p0.Prio){r:Parity}(h:i_copyParity p0=some r):Ret Tryz.prog 72 [.agg #[.slice an p0.Arena.Owner.length am,.slice al p0.Arena.Next.length ao,.slice aq p0.Prio.length ap]] w (fun v w'=>∃(κ':Col) (ra0:Option Addr) (ru0:Nat) (ra1:Option Addr) (ru1:Nat) (ra2:Option Addr) (ru2:Nat),v= .agg #[.slice ra0 r.Arena.Owner.length ru0,.slice ra1 r.Arena.Next.length ru1,.slice ra2 r.Prio.length ru2]∧Ent κ w κ' w'∧Oc E6 2 κ' w' 2 ra0 ru0 r.Arena.Owner∧Oc (Ep.own E6 2) 22 κ' w' 3 ra1 ru1 r.Arena.Next∧Oc E6 2 κ' w' 4 ra2 ru2 r.Prio):=by
 unfold i_copyParity at h
 refine Ret.enter F72 R N72 R ?_
 dsimp only[envOf]
 have hE:=Ent.refl κ w
 refine Je [1,1] R (Jf1 (κ:=κ) 2 R R R R R R R fun b1 w1 K2 S3 f4=>⟨tv,Jg1 (κ:=K2) 3 R R R R R X39 R fun b2 w5 K6 S7 f8=>⟨tv,Jd (Jq (Ob h fun x5 hx5 h=>Ob h fun x9 hx9 h=>Jx1 (fun L w'=>∃κ' ak af ah ae ai aj,L=[(2,.pointer (some ⟨b2,0,none⟩))]∧Stp [3,4,6,7,8] K6 w5 κ' w'∧Oc E6 2 κ' w' 4 ak af x5.Owner∧Oc (Ep.own E6 2) 22 κ' w' 5 ah ae x5.Next∧Oc E6 2 κ' w' 6 ai aj x9∧Bc κ' w' 3 b2 39 [.slice ak x5.Owner.length af,.slice ah x5.Next.length ae,.slice ai x9.length aj]) ?_ ?_))⟩⟩)
 refine WC.rxt (κ:=K6) [2] none (by kernel_rfl) fun w17 S18=>Jq1 (fuel:=5) [(0,2),(4,2),(1,0),(5,0)] (by kernel_rfl) (by kernel_rfl) R (Jf R (Jb2 U39 R Z37 R R) (Jf R (Jb2 U39 R Z22 R R) ?_))
 have f19:=f4.stp (S7.tr S18) R R
 refine Jg R (Jd2 (cs:=[.slice an p0.Arena.Owner.length am,.slice al p0.Arena.Next.length ao]) I37 Z37 R R R (haC (f19.lds 0 2 R) R)) (Jg R (Jc2 I22 R R (hvC (f19.ld 2 R R) R)) (Jp1 (WA.fork2 (fuel:=4) 2 3 (by kernel_rfl) R ?_ ?_)))
 refine Jh R R R C112 (i_copyArena_ok (κ:=fun b=>mp [] 0 (K6 b)) (p0:=p0.Arena) (Jl2 (g0_0_0.stp (S3.tr (S7.tr S18)) R R) (mp [] 0) R R) (Jl2 (g0_0_1.stp (S3.tr (S7.tr S18)) R R) (mp [] 0) R R) hx5) ?_
 rintro _ w22 ⟨k23,ab,ac,aa,ad,rfl,e24,f25,f26⟩
 obtain⟨K27,S28,m29⟩:=Ji e24 4 R
 exact⟨(S28.cl R),Jp1 (Jq1 (fuel:=0) [(3,1),(6,1),(7,2),(8,1)] (by kernel_rfl) (by kernel_rfl) R (Jo1 (κ:=K27) (E:=E6) 8 R R R R R Y22 Tryzinfo2 R fun a6 u6 w33 K34 S35 f36=>⟨((S28.tr S35).cl R),Jm1 (κ:=K34) (E:=E6) 8 [] R R R R R R R R R Y22 Tryzinfo2 R R R R f36 (Sl.srcP (pu_int _) (g0_1.stp (S3.tr (S7.tr (S18.tr (S28.tr S35)))) R R)) sy_false hx9 R fun a9 u9 w38 K39 S40 f41=>⟨((S28.tr (S35.tr S40)).cl R),Jf R (rn_build (parts:=[(0,.tmp 5),(1,.tmp 9)]) (cells:=[.slice ab x5.Owner.length ac,.slice aa x5.Next.length ad,.slice a9 x9.length u9]) R R (by kernel_rfl)) (Jj1 (κ:=K39) 3 (vc:=[.slice ab x5.Owner.length ac,.slice aa x5.Next.length ad,.slice a9 x9.length u9]) R R R R R R R Z39 R R (f8.stp (S18.tr (S28.tr (S35.tr S40))) R R) R fun w43 S44 f45=>⟨((S28.tr (S35.tr (S40.tr S44))).cl R),Jp1 (Jr1 [] (by kernel_rfl) (by kernel_rfl) R (Jo (Jw1 _ ⟨(fun b=>ren [(6,4),(7,5),(8,6)] (K39 b)),ab,ac,aa,ad,a9,u9,R,(Jy2 ((S18.tr (S28.tr (S35.tr (S40.tr S44)))).wk R) [(6,4),(7,5),(8,6)] R),(((f25.mx (no_int _) m29 R (R:4+2=6)).stp (S35.tr (S40.tr S44)) R R).map (ren [(6,4),(7,5),(8,6)]) R R),(((f26.mx (no_own (no_int _) _) m29 R (R:4+3=7)).stp (S35.tr (S40.tr S44)) R R).map (ren [(6,4),(7,5),(8,6)]) R R),((f41.stp S44 R R).map (ren [(6,4),(7,5),(8,6)]) R R),(f45.map (ren [(6,4),(7,5),(8,6)]) R R)⟩ (KM R))))⟩)⟩⟩))⟩
 refine Jo1 (κ:=K6) (E:=E6) 4 R R R R R Y22 Tryzinfo2 R fun a6 u6 w49 K50 S51 f52=>⟨(S51.cl R),Jp1 (Jq1 (fuel:=0) [(2,1),(6,1),(7,2),(8,1)] (by kernel_rfl) (by kernel_rfl) R (Jh R R R C112 (i_copyArena_ok (κ:=fun b=>mp [] 0 (K50 b)) (p0:=p0.Arena) (Jl2 (g0_0_0.stp (S3.tr (S7.tr (S18.tr S51))) R R) (mp [] 0) R R) (Jl2 (g0_0_1.stp (S3.tr (S7.tr (S18.tr S51))) R R) (mp [] 0) R R) hx5) ?_))⟩
 rintro _ w55 ⟨k56,ab,ac,aa,ad,rfl,e57,f58,f59⟩
 obtain⟨K60,S61,m62⟩:=Ji e57 5 R
 exact⟨((S51.tr S61).cl R),Jm1 (κ:=K60) (E:=E6) 4 [] R R R R R R R R R Y22 Tryzinfo2 R R R R (f52.stp S61 R R) (Sl.srcP (pu_int _) (g0_1.stp (S3.tr (S7.tr (S18.tr (S51.tr S61)))) R R)) sy_false hx9 R fun a9 u9 w68 K69 S70 f71=>⟨((S51.tr (S61.tr S70)).cl R),Jf R (rn_build (parts:=[(0,.tmp 5),(1,.tmp 9)]) (cells:=[.slice ab x5.Owner.length ac,.slice aa x5.Next.length ad,.slice a9 x9.length u9]) R R (by kernel_rfl)) (Jj1 (κ:=K69) 3 (vc:=[.slice ab x5.Owner.length ac,.slice aa x5.Next.length ad,.slice a9 x9.length u9]) R R R R R R R Z39 R R (f8.stp (S18.tr (S51.tr (S61.tr S70))) R R) R fun w73 S74 f75=>⟨((S51.tr (S61.tr (S70.tr S74))).cl R),Jp1 (Jr1 [] (by kernel_rfl) (by kernel_rfl) R (Jo (Jw1 _ ⟨(fun b=>ren [(7,4),(8,5),(4,6)] (K69 b)),ab,ac,aa,ad,a9,u9,R,(Jy2 ((S18.tr (S51.tr (S61.tr (S70.tr S74)))).wk R) [(7,4),(8,5),(4,6)] R),(((f58.mx (no_int _) m62 R (R:5+2=7)).stp (S70.tr S74) R R).map (ren [(7,4),(8,5),(4,6)]) R R),(((f59.mx (no_own (no_int _) _) m62 R (R:5+3=8)).stp (S70.tr S74) R R).map (ren [(7,4),(8,5),(4,6)]) R R),((f71.stp S74 R R).map (ren [(7,4),(8,5),(4,6)]) R R),(f75.map (ren [(7,4),(8,5),(4,6)]) R R)⟩ (KM R))))⟩)⟩⟩
 rintro _ w9 ⟨K10,ak,af,ah,ae,ai,aj,rfl,S11,f13,f14,f15,f16⟩
 refine Jp (Ju (Ja2 (l:=[.cell 2 39]) V72 (res_cellA R f16 I39 Z39 R R) R ?_))
 cases h
 exact⟨(fun b=>ren [(4,2),(5,3),(6,4)] (K10 b)),ak,af,ah,ae,ai,aj,R,((hE.stp (S3.tr (S7.tr S11)) R R).map (ren [(4,2),(5,3),(6,4)]) R R),(f13.map (ren [(4,2),(5,3),(6,4)]) R R),(f14.map (ren [(4,2),(5,3),(6,4)]) R R),(f15.map (ren [(4,2),(5,3),(6,4)]) R R)⟩
theorem s_l1Set_ok {w:World}{κ:Col}{a0 u0}{p0:(List Int)}{p1:Int}(g0:Rd (Rp.int .i64) κ w 0 a0 u0 p0){r:Bool}(h:s_l1Set p0 p1=some r):Ret Tryz.prog 123 [.slice a0 p0.length u0,vi p1] w (fun v w'=>∃(κ':Col),v= .bool r∧Ent κ w κ' w'):=by
 unfold s_l1Set at h
 refine Ret.enter F123 R N123 R ?_
 dsimp only[envOf]
 have hE:=Ent.refl κ w
 refine Je [2] R (Jb 1 R (Je [2,2,2,2,2,2,2,1,2,2] R (Jn 1 R (Jf R (Je2 U22 R R) (Jn 3 R (Ob h fun p13 h hK1=>Ju1 [(5,2),(6,2),(7,1),(8,2)] [(9,2)] (fun L w'=>L=[(4,.bool false),(13,.bool p13)]∧∃κ',Stp [] κ w κ' w') tv ?_ ?_))))))
 revert h
 cases ht2:decide ((p0.length:Int)≤p1)
 refine JF fun h=>Jn 2 R (Jd1 R R R R (Jn 1 R ?_))
 cases h
 exact Jv1 _ tv ⟨R,_,(Jx2 _ _).wk R⟩ (KM R)
 refine JT fun h=>Jn 2 R (Ob h fun x12 hx12 h=>Jh R R R C147 (s_l1Rises_ok (κ:=fun b=>mp [] 0 (κ b)) (Jl2 g0 (mp [] 0) R R) hx12) ?_)
 rintro _ w3 ⟨k4,rfl,e5⟩
 obtain⟨K6,S7,m8⟩:=Ji e5 2 R
 refine⟨tv,Jn 1 R ?_⟩
 cases h
 exact Jv1 _ tv ⟨R,_,S7.wk R⟩ (KM R)
 rintro _ w10 _ ⟨rfl,K11,S12⟩
 have h:=hK1
 refine Jb 1 R (Ju (Ja2 (l:=[.tmp 4]) V123 (Jp2 R R) R ?_))
 cases h
 exact⟨K11,R,(hE.stp S12 R R)⟩
theorem s_l4Copy_ok {w:World}{κ:Col}{aa af ab ad al am}{p0:Parity}(g0_0_0:Rd (Rp.int .i64) κ w 0 aa af p0.Arena.Owner) (g0_0_1:Rd (Rp.sl (Rp.int .i64)) κ w 0 ab ad p0.Arena.Next) (g0_1:Rd (Rp.int .i64) κ w 0 al am p0.Prio){r:Parity}(h:s_l4Copy p0=some r):Ret Tryz.prog 73 [.agg #[.slice aa p0.Arena.Owner.length af,.slice ab p0.Arena.Next.length ad,.slice al p0.Prio.length am]] w (fun v w'=>∃(κ':Col) (ra0:Option Addr) (ru0:Nat) (ra1:Option Addr) (ru1:Nat) (ra2:Option Addr) (ru2:Nat),v= .agg #[.slice ra0 r.Arena.Owner.length ru0,.slice ra1 r.Arena.Next.length ru1,.slice ra2 r.Prio.length ru2]∧Ent κ w κ' w'∧Oc E6 2 κ' w' 2 ra0 ru0 r.Arena.Owner∧Oc (Ep.fz (Rp.sl (Rp.int .i64))) 22 κ' w' 3 ra1 ru1 r.Arena.Next∧Oc E6 2 κ' w' 4 ra2 ru2 r.Prio):=by
 unfold s_l4Copy at h
 refine Ret.enter F73 R N73 R ?_
 dsimp only[envOf]
 have hE:=Ent.refl κ w
 refine Je [1,1] R (Jf1 (κ:=κ) 2 R R R R R R R fun b1 w1 K2 S3 f4=>⟨tv,Jg1 (κ:=K2) 3 R R R R R X39 R fun b2 w5 K6 S7 f8=>⟨tv,Jd (Jq (Js1 (κ:=K6) [2] none [(0,2),(3,2),(1,0),(4,0),(2,1),(5,1),(6,2),(7,1)] [] (by kernel_rfl) (by kernel_rfl) fun w10 S9=>Jf R (Jb2 U39 R Z37 R R) (Jf R (Jb2 U39 R Z22 R R) ?_)))⟩⟩)
 have f11:=f4.stp (S7.tr S9) R R
 refine Jg R (Jd2 (cs:=[.slice aa p0.Arena.Owner.length af,.slice ab p0.Arena.Next.length ad]) I37 Z37 R R R (haC (f11.lds 0 2 R) R)) (Jg R (Jc2 I22 R R (hvC (f11.ld 2 R R) R)) (Ob h fun x5 hx5 h=>Jh R R R C113 (s_l1CopyArena_ok (κ:=fun b=>mp [] 1 (K6 b)) (p0:=p0.Arena) (Jl2 (g0_0_0.stp (S3.tr (S7.tr S9)) R R) (mp [] 1) R R) (Jl2 (g0_0_1.stp (S3.tr (S7.tr S9)) R R) (mp [] 1) R R) hx5) ?_))
 rintro _ w14 ⟨k15,ac,ai,ah,ak,rfl,e16,f17,f18⟩
 obtain⟨K19,S20,m21,z22⟩:=Jj e16 4 R
 refine⟨(S20.cl R),Ob h fun x8 hx8 h=>Jh R R R C114 (s_l1Copy_ok (κ:=fun b=>mp [] 0 (K19 b)) (Jl2 (g0_1.stp (S3.tr (S7.tr (S9.tr S20))) R R) (mp [] 0) R R) hx8) ?_⟩
 rintro _ w26 ⟨k27,aj,ae,rfl,e28,f29⟩
 obtain⟨K30,S31,m32⟩:=Ji e28 8 R
 refine⟨((S20.tr S31).cl R),Jf R (rn_build (parts:=[(0,.tmp 5),(1,.tmp 8)]) (cells:=[.slice ac x5.Owner.length ai,.slice ah x5.Next.length ak,.slice aj x8.length ae]) R R (by kernel_rfl)) (Jj1 (κ:=K30) 3 (vc:=[.slice ac x5.Owner.length ai,.slice ah x5.Next.length ak,.slice aj x8.length ae]) R R R R R R R Z39 R R (f8.stp (S9.tr (S20.tr S31)) R R) R fun w36 S37 f38=>⟨((S20.tr (S31.tr S37)).cl R),Jt1 (Jd (Ju (Ja2 (l:=[.cell 2 39]) V73 (res_cellA R f38 I39 Z39 R R) R ?_)))⟩)⟩
 cases h
 exact⟨(fun b=>ren [(6,2),(7,3),(10,4)] (K30 b)),ac,ai,ah,ak,aj,ae,R,((hE.stp (S3.tr (S7.tr (S9.tr (S20.tr (S31.tr S37))))) R R).map (ren [(6,2),(7,3),(10,4)]) R R),(((f17.mx (no_int _) m21 R (R:4+2=6)).stp (S31.tr S37) R R).map (ren [(6,2),(7,3),(10,4)]) R R),(((f18.mxz z22 m21 R (R:4+3=7)).stp (S31.tr S37) R R).map (ren [(6,2),(7,3),(10,4)]) R R),(((f29.mx (no_int _) m32 R (R:8+2=10)).stp S37 R R).map (ren [(6,2),(7,3),(10,4)]) R R)⟩
theorem i_solver_won_ok (n:Nat):∀{w:World}{κ:Col}{ak ai ae ah af aj am al}{p0:solver}{a1 u1}{p1:(List Bool)}{b0}(g0_0_0_0:Rd (Rp.int .i64) κ w 0 ak ai p0.game.Arena.Owner) (g0_0_0_1:Rd (Rp.sl (Rp.int .i64)) κ w 0 ae ah p0.game.Arena.Next) (g0_0_1:Rd (Rp.int .i64) κ w 0 af aj p0.game.Prio) (g0_1:Rd (Rp.sl (Rp.int .i64)) κ w 0 am al p0.preds) (g1:Rd Rp.bool κ w 0 a1 u1 p1) (gb0:Bc κ w 0 b0 136 [.slice ak p0.game.Arena.Owner.length ai,.slice ae p0.game.Arena.Next.length ah,.slice af p0.game.Prio.length aj,.slice am p0.preds.length al]){r:(List Bool)×Int}(h:i_solver_won n p0 p1=some r),Ret Tryz.prog 130 [.pointer (some ⟨b0,0,none⟩),.slice a1 p1.length u1] w (fun v w'=>∃(κ':Col) (ra0:Option Addr) (ru0:Nat),v= .tuple #[.slice ra0 r.1.length ru0,vi r.2]∧Ent κ w κ' w'∧Rd Rp.bool κ' w' 0 ra0 ru0 r.1):=by
 induction n with
 | zero=>
  intro w κ ak ai ae ah af aj am al p0 a1 u1 p1 b0 g0_0_0_0 g0_0_0_1 g0_0_1 g0_1 g1 gb0 r h
  cases h
 | succ n ih=>
  intro w κ ak ai ae ah af aj am al p0 a1 u1 p1 b0 g0_0_0_0 g0_0_0_1 g0_0_1 g0_1 g1 gb0 r h
  have h:i_solver_won_s (i_solver_won n) p0 p1=some r:=h
  unfold i_solver_won_s at h
  refine Ret.enter F130 R N130 R ?_
  dsimp only[envOf]
  have hE:=Ent.refl κ w
  refine Je [2,2] R (Jb 2 R (Je [2,1,2] R (Jn 1 R (Ob h fun x17 hx17 h=>Jh R R R C60 (i_listOf_ok (κ:=fun b=>mp [] 0 (κ b)) (Jl2 g1 (mp [] 0) R R) hx17) ?_))))
  rintro _ w1 ⟨k2,aA,aE,rfl,e3,f4⟩
  obtain⟨K5,S6,m7⟩:=Ji e3 2 R
  refine⟨tv,Jb 1 R (Jq (Je [2,2,2] R (Jn 1 R (Jf R (Je2 U22 R R) (Jb 1 R ?_)))))⟩
  revert h
  cases ht10:((x17.length:Int)==0)
  refine JF fun h=>Jy R (Js (Jp (Je [2,2,2,1,2,1,2] R (Jn 1 R (Jf R (rn_nilCheck R R) (Jf R (Jb2 U136 R Z39 R R) ?_))))))
  have f13:=gb0.stp S6 R R
  refine Jl tv R R R R (Jd2 (cs:=[.slice ak p0.game.Arena.Owner.length ai,.slice ae p0.game.Arena.Next.length ah,.slice af p0.game.Prio.length aj]) I39 Z39 R R R (haE (f13.lds 0 3 R))) (Jn 1 R (Ob h fun x27 hx27 h=>?_))
  have f14:=g0_0_0_0.stp S6 R R
  have f15:=g0_0_0_1.stp S6 R R
  have f16:=g0_0_1.stp S6 R R
  refine Jh R R R C152 (i_topIn_ok (κ:=fun b=>mp [] 0 (K5 b)) (p0:=p0.game) (Jl2 f14 (mp [] 0) R R) (Jl2 f15 (mp [] 0) R R) (Jl2 f16 (mp [] 0) R R) (Jl2 (f4.mx (no_int _) m7 R (R:2+2=4)).rdc (mp [] 0) R R) hx27) ?_
  rintro _ w17 ⟨k18,rfl,e19⟩
  obtain⟨K20,S21,m22⟩:=Ji e19 5 R
  refine⟨tv,Jb 1 R (Je [2,2,2] R (Jn 1 R (Jf R (rn_rem R R R (by decide)) (Jb 1 R (Je [1,2,1,2] R (Jo1 (κ:=K20) (E:=Ep.bool) 7 R R R R R Y70 Tryzinfo4 R fun aD aI w24 K25 S26 f27=>⟨tv,Jn 1 R (Ob h fun x32 hx32 h=>Jm1 (κ:=K25) (E:=Ep.bool) 7 [] R R R R R R R R R Y70 Tryzinfo4 R R R R f27 (Sl.srcP pu_bool (g1.stp (S6.tr (S21.tr S26)) R R)) sy_false hx32 R fun aw av w29 K30 S31 f32=>⟨tv,Jb 1 R (Ob h fun q2 hq35 hK34=>?_)⟩)⟩))))))⟩
  clear h
  refine Jv (Jy1 (fun k L w'=>∃κ',∃s1:(List Bool),∃ab aa,L=[(0,.pointer (some ⟨b0,0,none⟩)),(1,.slice a1 p1.length u1),(7,vi x27),(8,vi (Int.tmod x27 2)),(9,.slice ab s1.length aa)]∧Stp [8,14,20,25] K30 w29 κ' w'∧Oc Ep.bool 4 κ' w' 7 ab aa s1∧whileM (i_solver_won_b0 (i_solver_won n) p0 p1 x27) k s1=some q2) ⟨_,_,⟨K30,(x32:(List Bool)),aw,av,R,(Jx2 _ _).wk R,f32,hq35⟩,(KM R)⟩ ?_)
  rintro k _ w36 ⟨K37,s1,ab,aa,rfl,S38,f39,h⟩
  rcases k with _ | k
  cases h
  obtain⟨o33,h,hk40⟩:=BI h;unfold i_solver_won_b0 at h
  refine Jv (Je [2,2,1,2] R (Jn 1 R (Jf R (Je2 U70 R R) (Ob h fun x35 hx35 h=>Jl1 (κ:=K37) (E:=Ep.bool) (z:=(false:Bool)) 8 R R R R R R R Y70 Tryzinfo4 R R R R R (fun _ _ _=>R) (Ju2 hx35) fun ad ac w41 K42 S43 f44=>⟨tv,Jb 1 R (Jq (Je [2,2,2] R (Jn 1 R (Jf R (Je2 U70 R R) (Jb 1 R ?_)))))⟩))))
  have hN45:(x35.length:Int)≤9223372036854775807:=f44.len_le
  refine Ob h fun q5 hq47 hK46=>?_
  clear h
  refine Jx1 (fun L w'=>∃κ',∃s6:(List Bool),L=[(0,.pointer (some ⟨b0,0,none⟩)),(1,.slice a1 p1.length u1),(7,vi x27),(8,vi (Int.tmod x27 2)),(9,.slice ab s1.length aa),(10,.slice ad x35.length ac)]∧Stp [8] K42 w41 κ' w'∧Oc Ep.bool 4 κ' w' 8 ad ac s6∧x35.length=s6.length∧q5=Sum.inr s6) ?_ ?_
  refine Jv (Jy1 (fun k L w'=>∃κ' v38,∃s4:(List Bool),L=[(0,.pointer (some ⟨b0,0,none⟩)),(1,.slice a1 p1.length u1),(7,vi x27),(8,vi (Int.tmod x27 2)),(9,.slice ab s1.length aa),(10,.slice ad x35.length ac),(37,vi (x35.length:Int)),(38,vi v38)]∧Stp [8] K42 w41 κ' w'∧Oc Ep.bool 4 κ' w' 8 ad ac s4∧x35.length=s4.length∧0≤v38∧Int.toNat ((x35.length:Int)-v38)=k∧cntM (i_solver_won_b2 p0 x27 s1) k v38 s4=some q5) ⟨_,_,⟨K42,0,(x35:(List Bool)),R,(Jx2 _ _).wk R,f44,R,(by decide),(by simp),hq47⟩,(KM R)⟩ ?_)
  rintro k _ w53 ⟨K54,v38,s4,rfl,S55,f56,hn57,hj45,hJ45,h⟩
  rcases k with _ | k
  have hk58:=h;obtain⟨o45,h⟩:=ex_eq (Sum.inr (Sum.inl s4):((List Bool)×Int)⊕(((List Bool))⊕((List Bool))))
  have hc45:decide (v38<(x35.length:Int))=false:=Jo2 (by omega)
  refine Je [2] R (Jb 1 R (Jq (Jw2 R hc45 (Jc1 (Jt (Jt ?_))))))
  cases h
  have h:=hk58
  refine Jb1 ?_
  cases h
  exact Jw1 _ ⟨K54,(s4:(List Bool)),R,S55.wk R,f56,hn57,R⟩ (KM R)
  obtain⟨o45,h,hk58⟩:=BI h;unfold i_solver_won_b2 at h
  have hc45:decide (v38<(x35.length:Int))=true:=Jn2 (by omega)
  refine Je [2] R (Jb 1 R (Jq (Jv2 R hc45 (Js (Jp (Jq (Jv (Je [2,2] R (Jb 2 R (Ja [2,2,2,2,2,1,2,2,2,2,2,1,2,2,1,2,2,2,2,1] R (Jn 4 R (Ob h fun x45 hx45 h=>Jf R (Jf2 f39.rdc hx45 U70 Z4 R R R R) (Jl tv R R R R (Jc2 I4 R R (hvE ((f39.stp (S43.tr S55) R R).rdc.gBool hx45))) (Jn 1 R (Ob h fun p58 h hK60=>Ju1 [(7,2),(8,2),(9,2),(10,2),(11,1),(12,2),(13,2),(14,1),(15,2),(16,2),(17,2)] [(18,2),(19,1)] (fun L w'=>L=[(0,.pointer (some ⟨b0,0,none⟩)),(1,.slice a1 p1.length u1),(7,vi x27),(8,vi (Int.tmod x27 2)),(9,.slice ab s1.length aa),(10,.slice ad x35.length ac),(37,vi (x35.length:Int)),(38,vi v38),(41,.slice ad x35.length ac),(42,vi v38),(58,.bool p58)]∧∃κ',Stp [] K54 w53 κ' w') tv ?_ ?_)))))))))))))))
  revert h
  cases ht61:x45
  refine JF fun h=>Jn 4 R (Jd1 R R R R (Jn 2 R (Jd1 R R R R (Jn 3 R ?_))))
  cases h
  exact Jv1 _ tv ⟨R,_,(Jx2 _ _).wk R⟩ (KM R)
  have S001:=(S21.tr (S26.tr (S31.tr (S38.tr (S43.tr S55)))))
  refine JT fun h=>Jn 1 R (Jf R (rn_nilCheck R R) (Jf R (Jb2 U136 R Z39 R R) (Jf R (Jb2 U39 R Z22 R R) (Jl tv R R R R (Jc2 I22 R R (hvE ((f13.stp S001 R R).ld 2 R R))) (Jn 1 R (Ob h fun x54 hx54 h=>Jf R (Jf2 f16 hx54 U22 Z2 R R R R) (Jl tv R R R R (Jc2 I2 R R (hvE ((f16.stp S001 R R).gInt hx54))) (Jn 3 R ?_))))))))
  cases h
  exact Jv1 _ tv ⟨R,_,(Jx2 _ _).wk R⟩ (KM R)
  rintro _ w64 _ ⟨rfl,K65,S66⟩
  have h:=hK60
  refine Ob h fun x59 hx59 h=>Jf R (Jf2 f56.rdc hx59 U70 Z4 R R hn57 R) (Ob h fun y292 hy292 h=>Jk1 (κ:=K65) (E:=Ep.bool) 8 [] R R R R R R R R Z4 R R R R (f56.stp S66 R R) hy292 fun w68 K69 S70 f71=>⟨tv,?_⟩)
  have hn72:x35.length=y292.length:=hn57.trans (Jt2 hy292).2.2.2.symm
  refine Jo (Jz (Jp (Ja [2,2] R (Jc 2 R ?_))))
  have hw45:IntKind.wrap .i64 (v38+1)=v38+1:=wr1 hj45 (Jm2 hc45) hN45
  rw[hw45]
  have hc45:=Jm2 hc45
  cases h
  exact Jz1 fun a ha=>⟨k,_,Ja3 _,⟨K69,v38+1,(y292:(List Bool)),R,(S55.tr (S66.tr S70)).wk R,f71,hn72,by omega,by omega,hk58⟩,(ha.mm R)⟩
  rintro _ w48 ⟨K49,s6,rfl,S50,f51,hn52,rfl⟩
  have h:=hK46
  dsimp only[aft]at h
  refine Jp (Je [2,2,2,2,2,1,1,2] R (Jn 5 R (Ob h fun x66 hx66 h=>?_)))
  have f73:=f14.stp (S21.tr (S26.tr (S31.tr (S38.tr (S43.tr S50))))) R R
  have f74:=f15.stp (S21.tr (S26.tr (S31.tr (S38.tr (S43.tr S50))))) R R
  have f75:=f16.stp (S21.tr (S26.tr (S31.tr (S38.tr (S43.tr S50))))) R R
  have f76:=g0_1.stp (S6.tr (S21.tr (S26.tr (S31.tr (S38.tr (S43.tr S50)))))) R R
  have f77:=f39.stp (S43.tr S50) R R
  have f78:=f13.stp (S21.tr (S26.tr (S31.tr (S38.tr (S43.tr S50))))) R R
  refine Jh R R R C153 (Ret.cast (by simp only[hn52,List.cons_append,List.nil_append]) (i_solver_pull_ok (κ:=fun b=>mp [] 0 (K49 b)) (p0:=p0) (Jl2 f73 (mp [] 0) R R) (Jl2 f74 (mp [] 0) R R) (Jl2 f75 (mp [] 0) R R) (Jl2 f76 (mp [] 0) R R) (Jl2 f77.rdc (mp [] 0) R R) (Jl2 f51.rdc (mp [] 0) R R) (f78.map (mp [] 0) R R) hx66)) ?_
  rintro _ w79 ⟨k80,aH,aF,rfl,e81,f82⟩
  obtain⟨K83,S84,m85⟩:=Ji e81 9 R
  refine⟨tv,Ob h fun x67 hx67 h=>?_⟩
  have f88:=f77.stp S84 R R
  refine Jh R R R C131 (i_without_ok (κ:=fun b=>mp [] 0 (K83 b)) (Jl2 f88.rdc (mp [] 0) R R) (Jl2 (f82.mx no_bool m85 R (R:9+2=11)).rdc (mp [] 0) R R) hx67) ?_
  rintro _ w89 ⟨k90,aB,aG,rfl,e91,f92⟩
  obtain⟨K93,S94,m95⟩:=Ji e91 12 R
  refine⟨tv,Jb 1 R (Je [2,2,1,2,2,2,2,2] R (Jn 2 R ?_))⟩
  obtain⟨K98,S99,z100⟩:=fz_ex K93 w89 14
  have f101:=Sl.st z100 (f92.mx no_bool m95 R (R:12+2=14)).rdc
  refine Ob h fun x71 hx71 h=>?_
  have f102:=f73.stp (S84.tr (S94.tr S99)) R R
  have f103:=f74.stp (S84.tr (S94.tr S99)) R R
  have f104:=f75.stp (S84.tr (S94.tr S99)) R R
  have f105:=f76.stp (S84.tr (S94.tr S99)) R R
  have f106:=f78.stp (S84.tr (S94.tr S99)) R R
  refine Jh R R R C130 (ih (κ:=fun b=>mp [] 1 (K98 b)) (p0:=p0) (Jl2 f102 (mp [] 1) R R) (Jl2 f103 (mp [] 1) R R) (Jl2 f104 (mp [] 1) R R) (Jl2 f105 (mp [] 1) R R) (Jl2 f101 (mp [] 1) R R) (f106.map (mp [] 1) R R) hx71) ?_
  rintro _ w107 ⟨k108,ax,ar,rfl,e109,f110⟩
  obtain⟨K111,S112,m113,z114⟩:=Jj e109 15 R
  refine⟨tv,?_⟩
  have f115:=f110.mx z114
  refine Jb 5 R (Je [2,2] R (Jb 2 R (Jq (Je [2,2,2] R (Jb 3 R (Ob h fun q7 h hK116=>Jx1 (fun L w'=>∃κ' ao an,L=[(0,.pointer (some ⟨b0,0,none⟩)),(1,.slice a1 p1.length u1),(7,vi x27),(8,vi (Int.tmod x27 2)),(9,.slice ab s1.length aa),(15,.slice ao q7.length an)]∧Stp [20] K111 w107 κ' w'∧Rd Rp.bool κ' w' 0 ao an q7) ?_ ?_))))))
  revert h
  cases ht121:(x71.2==(Int.tmod x27 2))
  refine JF fun h=>Jy R (Js ?_)
  cases h
  exact Jw1 _ ⟨K111,ax,ar,R,(Jx2 _ _).wk R,f115⟩ (KM R)
  refine JT fun h=>Jx R (Ja [2,2,1,2] R (Jn 2 R (Ob h fun x80 hx80 h=>Jh R R R C131 (i_without_ok (κ:=fun b=>mp [] 0 (K111 b)) (Jl2 (f101.stp S112 R R) (mp [] 0) R R) (Jl2 f115 (mp [] 0) R R) hx80) ?_)))
  rintro _ w123 ⟨k124,ay,au,rfl,e125,f126⟩
  obtain⟨K127,S128,m129⟩:=Ji e125 18 R
  refine⟨tv,Jc 1 R ?_⟩
  obtain⟨K132,S133,z134⟩:=fz_ex K127 w123 20
  cases h
  exact Jw1 _ ⟨K132,ay,au,R,(S128.tr S133).wk R,(Sl.st z134 (f126.mx no_bool m129 R (R:18+2=20)).rdc)⟩ (KM R)
  rintro _ w117 ⟨K118,ao,an,rfl,S119,f120⟩
  have h:=hK116
  refine Jp (Jq (Je [2,1,2] R (Jn 1 R (Ob h fun x82 hx82 h=>Jh R R R C154 (slices_Contains_bool_bool_ok (κ:=fun b=>mp [] 0 (K118 b)) (Jl2 f120 (mp [] 0) R R) hx82) ?_))))
  rintro _ w136 ⟨k137,rfl,e138⟩
  obtain⟨K139,S140,m141⟩:=Ji e138 18 R
  refine⟨tv,Jb 1 R ?_⟩
  revert h
  cases ht143:(!x82)
  refine JF fun h=>Jy R (Js (Jp (Je [2,2,2,2,2,2,1,1,2] R (Jn 6 R (Ob h fun x92 hx92 h=>?_)))))
  have f156:=f88.stp (S94.tr (S99.tr (S112.tr (S119.tr S140)))) R R
  have S002:=(S112.tr (S119.tr S140))
  refine Jh R R R C153 (i_solver_pull_ok (κ:=fun b=>mp [] 0 (K139 b)) (p0:=p0) (Jl2 (f102.stp S002 R R) (mp [] 0) R R) (Jl2 (f103.stp S002 R R) (mp [] 0) R R) (Jl2 (f104.stp S002 R R) (mp [] 0) R R) (Jl2 (f105.stp S002 R R) (mp [] 0) R R) (Jl2 f156.rdc (mp [] 0) R R) (Jl2 (f120.stp S140 R R) (mp [] 0) R R) ((f106.stp S002 R R).map (mp [] 0) R R) hx92) ?_
  rintro _ w159 ⟨k160,az,aC,rfl,e161,f162⟩
  obtain⟨K163,S164,m165⟩:=Ji e161 20 R
  refine⟨tv,Ob h fun x93 hx93 h=>Jh R R R C131 (i_without_ok (κ:=fun b=>mp [] 0 (K163 b)) (Jl2 (f156.stp S164 R R).rdc (mp [] 0) R R) (Jl2 (f162.mx no_bool m165 R (R:20+2=22)).rdc (mp [] 0) R R) hx93) ?_⟩
  rintro _ w169 ⟨k170,aq,ap,rfl,e171,f172⟩
  obtain⟨K173,S174,m175⟩:=Ji e171 23 R
  refine⟨tv,?_⟩
  have f177:=f172.mx no_bool m175 R (R:23+2=25)
  refine Jb 1 R (Je [2,1,2] R (Jn 1 R (Ob h fun x95 hx95 h=>Jh R R R C154 (slices_Contains_bool_bool_ok (κ:=fun b=>mp [] 0 (K173 b)) (Jl2 f177.rdc (mp [] 0) R R) hx95) ?_)))
  rintro _ w178 ⟨k179,rfl,e180⟩
  obtain⟨K181,S182,m183⟩:=Ji e180 26 R
  refine⟨tv,Jb 1 R ?_⟩
  revert h
  cases ht185:(!x95)
  refine JF fun h=>Jy R (Js (Jz ?_))
  cases h
  exact Jz1 fun a ha=>⟨k,_,Ja3 _,⟨(fun b=>ren [(25,7)] (K181 b)),(x93:(List Bool)),aq,ap,R,(Jy2 ((S38.tr (S43.tr (S50.tr (S84.tr (S94.tr (S99.tr (S112.tr (S119.tr (S140.tr (S164.tr (S174.tr S182))))))))))).wk R) [(25,7)] R),((f177.stp S182 R R).map (ren [(25,7)]) R R),hk40⟩,(ha.mm R)⟩
  refine JT fun h=>Jx R (Je [2,2,2,2] R (Jb 4 R (Ju (Ja1 (Jw ?_)))))
  cases h
  obtain rfl:=Option.some.inj hk40
  have h:=hK34
  dsimp only[aft]at h
  refine Ja1 ?_
  obtain⟨K187,S188,z189⟩:=fz_ex K181 w178 25
  refine Ja2 (l:=[.tmp 4,.tmp 5]) V130 (Jp2 R (Jp2 R R)) R ?_
  cases h
  exact⟨K187,aq,ap,R,(hE.stp (S6.tr (S21.tr (S26.tr (S31.tr (S38.tr (S43.tr (S50.tr (S84.tr (S94.tr (S99.tr (S112.tr (S119.tr (S140.tr (S164.tr (S174.tr (S182.tr S188)))))))))))))))) R R),(Sl.st z189 (f177.stp S182 R R).rdc)⟩
  refine JT fun h=>Jx R (Je [2,2,2,2] R (Jb 4 R (Ju (Jw (Ja1 (Jw ?_))))))
  cases h
  obtain rfl:=Option.some.inj hk40
  have h:=hK34
  dsimp only[aft]at h
  refine Ja1 ?_
  obtain⟨K146,S147,z148⟩:=fz_ex K139 w136 7
  refine Ja2 (l:=[.tmp 4,.tmp 5]) V130 (Jp2 R (Jp2 R R)) R ?_
  cases h
  exact⟨K146,ab,aa,R,(hE.stp (S6.tr (S21.tr (S26.tr (S31.tr (S38.tr (S43.tr (S50.tr (S84.tr (S94.tr (S99.tr (S112.tr (S119.tr (S140.tr S147))))))))))))) R R),(Sl.st z148 (f88.stp (S94.tr (S99.tr (S112.tr (S119.tr S140)))) R R).rdc)⟩
  refine JT fun h=>Jx R (Je [2,2,2] R (Jb 3 R (Ju (Jw (Ja2 (l:=[.tmp 4,.tmp 5]) V130 (Jp2 R (Jp2 R R)) R ?_)))))
  cases h
  exact⟨K5,a1,u1,R,(hE.stp S6 R R),(g1.stp S6 R R)⟩
end Go.Proofs.YtmiilifclnanlaaGreat
