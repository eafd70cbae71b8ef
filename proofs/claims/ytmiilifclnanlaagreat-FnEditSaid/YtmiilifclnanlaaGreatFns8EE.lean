/- The walks, part 8. By program. -/
import Derived.Test.YtmiilifclnanlaaGreatFns6EE
import Derived.Test.YtmiilifclnanlaaGreatFns7EE
set_option linter.unusedVariables false
set_option linter.unusedSimpArgs false
namespace Go.Proofs.YtmiilifclnanlaaGreat
open Go Go.Wk Go.Proofs
set_option maxRecDepth 100000
set_option maxHeartbeats 1000000
theorem s_l1Num_ok {w:World}{κ:Col}{ab aa}{p0:l1Cur}{p1:Int}{b0}(g0_0:Rd (Rp.int .u8) κ w 0 ab aa p0.b) (gb0:Bc κ w 2 b0 107 [.slice ab p0.b.length aa,vi p0.i,vi p0.h]){r:Int×Int×Int}(h:s_l1Num p0 p1=some r):Ret Tryz.prog 108 [.pointer (some ⟨b0,0,none⟩),vi p1] w (fun v w'=>∃(κ':Col),v=vi r.1∧Ent κ w κ' w'∧Bc κ' w' 2 b0 107 [.slice ab p0.b.length aa,vi r.2.1,vi r.2.2]):=by
 unfold s_l1Num at h
 refine Ret.enter F108 R N108 R ?_
 dsimp only[envOf]
 have hE:=Ent.refl κ w
 refine Je [2] R (Jb 1 R (Jq (Je [2,1] R (Jn 1 R (Ob h fun x6 hx6 h=>Jh R R R C71 (s_l1Once_ok (κ:=fun b=>mp [(2,2)] 0 (κ b)) (p0:=p0) (Jl2 g0_0 (mp [(2,2)] 0) R R) (gb0.map (mp [(2,2)] 0) R R) hx6) ?_)))))
 rintro _ w1 ⟨k2,rfl,e3,f4⟩
 obtain⟨K5,S6,m7⟩:=Ji e3 3 R
 refine⟨tv,?_⟩
 have f9:=f4.mx m7 R (R:3+2=5)
 refine Jd ?_
 revert h
 cases ht10:x6.1
 refine JF fun h=>Jy R (Js (Jp (Jq (Je [2,1] R (Jn 1 R (Ob h fun x18 hx18 h=>?_))))))
 have f38:=g0_0.stp S6 R R
 refine Jh R R R C71 (s_l1Once_ok (κ:=fun b=>mp [(5,2)] 0 (K5 b)) (p0:=(⟨p0.b,x6.2.1,x6.2.2⟩:l1Cur)) (Jl2 f38 (mp [(5,2)] 0) R R) (f9.map (mp [(5,2)] 0) R R) hx18) ?_
 rintro _ w39 ⟨k40,rfl,e41,f42⟩
 obtain⟨K43,S44,m45⟩:=Ji e41 6 R
 refine⟨tv,?_⟩
 have f47:=f42.mx m45 R (R:6+2=8)
 refine Jd ?_
 revert h
 cases ht48:x18.1
 refine JF fun h=>Jy R (Js (Jp (Je [2,2,2,1,2] R (Jn 3 R (Ob h fun x27 hx27 h=>Jh R R R C69 (s_l1Below_ok (κ:=fun b=>mp [(8,2)] 0 (K43 b)) (p0:=(⟨p0.b,x18.2.1,x18.2.2⟩:l1Cur)) (Jl2 (f38.stp S44 R R) (mp [(8,2)] 0) R R) (f47.map (mp [(8,2)] 0) R R) hx27) ?_)))))
 rintro _ w69 ⟨k70,rfl,e71,f72⟩
 obtain⟨K73,S74,m75⟩:=Ji e71 9 R
 refine⟨tv,Jb 1 R (Ju (Ja2 (l:=[.tmp 4]) V108 (Jp2 R R) R ?_))⟩
 cases h
 exact⟨(fun b=>ren [(11,2)] (K73 b)),R,((hE.stp (S6.tr (S44.tr S74)) R R).map (ren [(11,2)]) R R),((f72.mx m75 R (R:9+2=11)).map (ren [(11,2)]) R R)⟩
 refine JT fun h=>Jx R (Je [2,2,1,2,1,2] R (Jn 2 R (Ob h fun x21 hx21 h=>Jh R R R C139 (s_l1Min_ok (κ:=fun b=>mp [] 0 (K43 b)) hx21) ?_)))
 rintro _ w49 ⟨k50,rfl,e51⟩
 obtain⟨K52,S53,m54⟩:=Ji e51 9 R
 refine⟨tv,Jn 1 R (Ob h fun x23 hx23 h=>Jh R R R C69 (s_l1Below_ok (κ:=fun b=>mp [(8,2)] 0 (K52 b)) (p0:=(⟨p0.b,x18.2.1,x18.2.2⟩:l1Cur)) (Jl2 (f38.stp (S44.tr S53) R R) (mp [(8,2)] 0) R R) ((f47.stp S53 R R).map (mp [(8,2)] 0) R R) hx23) ?_)⟩
 rintro _ w58 ⟨k59,rfl,e60,f61⟩
 obtain⟨K62,S63,m64⟩:=Ji e60 11 R
 refine⟨tv,Jb 1 R (Ju (Jw (Ja2 (l:=[.tmp 4]) V108 (Jp2 R R) R ?_)))⟩
 cases h
 exact⟨(fun b=>ren [(13,2)] (K62 b)),R,((hE.stp (S6.tr (S44.tr (S53.tr S63))) R R).map (ren [(13,2)]) R R),((f61.mx m64 R (R:11+2=13)).map (ren [(13,2)]) R R)⟩
 refine JT fun h=>Jx R (Je [2,2,2,2,1,1,2,1,2,1,2] R (Jn 4 R (Ob h fun x11 hx11 h=>?_)))
 have f11:=g0_0.stp S6 R R
 refine Jh R R R C138 (s_l1Odd_ok (κ:=fun b=>mp [(5,2)] 0 (K5 b)) (p0:=(⟨p0.b,x6.2.1,x6.2.2⟩:l1Cur)) (Jl2 f11 (mp [(5,2)] 0) R R) (f9.map (mp [(5,2)] 0) R R) hx11) ?_
 rintro _ w12 ⟨k13,rfl,e14,f15⟩
 obtain⟨K16,S17,m18⟩:=Ji e14 6 R
 refine⟨tv,Jn1 (κ:=K16) (E:=E6) 9 [] (parts:=[(0,.const (vi (-1))),(1,.tmp 7),(2,.tmp 9),(3,.tmp 11)]) (cells:=[vi (-1),vi p1,vi (IntKind.i64.wrap (p1+1)),vi x11.1]) (xs:=([(-1),p1,(IntKind.i64.wrap (p1+1)),x11.1]:List Int)) R R R R R R Y22 Tryzinfo2 R R R R R R R R R R ⟨[vi (-1)],[vi p1,vi (IntKind.i64.wrap (p1+1)),vi x11.1],Zl K16 w12 [],Zl K16 w12 [],R,Zl.sp (l1:=[]) (l2:=[]) R,Zl.sr (l1:=[]) (l2:=[]),R,⟨[vi p1],[vi (IntKind.i64.wrap (p1+1)),vi x11.1],Zl K16 w12 [],Zl K16 w12 [],R,Zl.sp (l1:=[]) (l2:=[]) R,Zl.sr (l1:=[]) (l2:=[]),R,⟨[vi (IntKind.i64.wrap (p1+1))],[vi x11.1],Zl K16 w12 [],Zl K16 w12 [],R,Zl.sp (l1:=[]) (l2:=[]) R,Zl.sr (l1:=[]) (l2:=[]),R,⟨[vi x11.1],[],Zl K16 w12 [],Zl K16 w12 [],R,Zl.sp (l1:=[]) (l2:=[]) R,Zl.sr (l1:=[]) (l2:=[]),R,R⟩⟩⟩⟩ fun ad ac w21 K22 S23 f24=>⟨tv,Jn 1 R (Ob h fun x14 hx14 h=>Jh R R R C69 (s_l1Below_ok (κ:=fun b=>mp [(8,2)] 0 (K22 b)) (p0:=(⟨p0.b,x11.2.1,x11.2.2⟩:l1Cur)) (Jl2 (f11.stp (S17.tr S23) R R) (mp [(8,2)] 0) R R) (((f15.mx m18 R (R:6+2=8)).stp S23 R R).map (mp [(8,2)] 0) R R) hx14) ?_)⟩⟩
 rintro _ w27 ⟨k28,rfl,e29,f30⟩
 obtain⟨K31,S32,m33⟩:=Ji e29 10 R
 refine⟨tv,Ob h fun x15 hx15 h=>Jf R (Jf2 f24.rdc hx15 U22 Z2 R R R R) (Jl tv R R R R (Jc2 I2 R R (hvE ((f24.stp S32 R R).rdc.gInt hx15))) (Jb 1 R (Ju (Jw (Ja2 (l:=[.tmp 4]) V108 (Jp2 R R) R ?_)))))⟩
 cases h
 exact⟨(fun b=>ren [(12,2)] (K31 b)),R,((hE.stp (S6.tr (S17.tr (S23.tr S32))) R R).map (ren [(12,2)]) R R),((f30.mx m33 R (R:10+2=12)).map (ren [(12,2)]) R R)⟩
theorem s_ArenaOk_ok {w:World}{κ:Col}{ad aa ac ab}{p0:Arena}(g0_0:Rd (Rp.int .i64) κ w 0 ad aa p0.Owner) (g0_1:Rd (Rp.sl (Rp.int .i64)) κ w 0 ac ab p0.Next){r:Bool}(h:s_ArenaOk p0=some r):Ret Tryz.prog 95 [.agg #[.slice ad p0.Owner.length aa,.slice ac p0.Next.length ab]] w (fun v w'=>∃(κ':Col),v= .bool r∧Ent κ w κ' w'):=by
 unfold s_ArenaOk at h
 refine Ret.enter F95 R N95 R ?_
 dsimp only[envOf]
 have hE:=Ent.refl κ w
 refine Je [1,2] R (Jf1 (κ:=κ) 2 R R R R R R R fun b1 w1 K2 S3 f4=>⟨tv,Jb 1 R (Je [2,1,2,2] R (Jf R (Jb2 U37 R Z22 R R) (Jl tv R R R R (Jc2 I22 R R (hvE (f4.ld 0 R R))) (Jf R (Je2 U22 R R) (Jb 1 R (Jq (Je [2,1,2,2,2,1,2,2,1,2,2,2] R (Jn 1 R (Ob h fun x9 hx9 h=>Jh R R R C75 (s_l1In_ok (κ:=fun b=>mp [] 0 (K2 b)) hx9) ?_)))))))))⟩)
 rintro _ w5 ⟨k6,rfl,e7⟩
 obtain⟨K8,S9,m10⟩:=Ji e7 3 R
 refine⟨tv,Jn 2 R (Ob h fun p19 h hK12=>Ju1 [(4,2),(5,1),(6,2),(7,2),(8,1),(9,2),(10,2),(11,2)] [] (fun L w'=>L=[(1,.pointer (some ⟨b1,0,none⟩)),(3,vi (p0.Owner.length:Int)),(19,.bool p19)]∧∃κ',Stp [] K8 w5 κ' w') tv ?_ ?_)⟩
 revert h
 cases ht13:(!x9)
 refine JF fun h=>Jf R (Jb2 U37 R Z23 R R) ?_
 have f14:=f4.stp S9 R R
 refine Jl tv R R R R (Jc2 I23 R R (hvE (f14.ld 1 R R))) (Jf R (Je2 U23 R R) (Jf R (Jb2 U37 R Z22 R R) (Jl tv R R R R (Jc2 I22 R R (hvE (f14.ld 0 R R))) (Jf R (Je2 U22 R R) (Jn 2 R ?_)))))
 cases h
 exact Jv1 _ tv ⟨R,_,(Jx2 _ _).wk R⟩ (KM R)
 refine JT fun h=>Jn 1 R (Jd1 R R R R (Jn 2 R (Jd1 R R R R (Jn 3 R ?_))))
 cases h
 exact Jv1 _ tv ⟨R,_,(Jx2 _ _).wk R⟩ (KM R)
 rintro _ w15 _ ⟨rfl,K16,S17⟩
 have h:=hK12
 refine Jd ?_
 revert h
 cases ht18:p19
 refine JF fun h=>Jy R (Js (Jp (Jq (Je [2] R (Jb 1 R ?_)))))
 have hN20:(p0.Owner.length:Int)≤9223372036854775807:=g0_0.len_le
 refine Ob h fun q2 hq22 hK21=>?_
 clear h
 refine Jx1 (fun L w'=>∃κ',L=[]∧Stp [] K16 w15 κ' w'∧q2=Sum.inr ()) ?_ ?_
 refine Jv (Jy1 (fun k L w'=>∃κ' v4,L=[(1,.pointer (some ⟨b1,0,none⟩)),(3,vi (p0.Owner.length:Int)),(4,vi v4)]∧Stp [] K16 w15 κ' w'∧0≤v4∧Int.toNat ((p0.Owner.length:Int)-v4)=k∧cntM (s_ArenaOk_b0 p0) k v4 ()=some q2) ⟨_,_,⟨K16,0,R,(Jx2 _ _).wk R,(by decide),(by simp),hq22⟩,(KM R)⟩ ?_)
 rintro k _ w26 ⟨K27,v4,rfl,S28,hj20,hJ20,h⟩
 rcases k with _ | k
 have hk29:=h;obtain⟨o20,h⟩:=ex_eq (Sum.inr (Sum.inl ()):Bool⊕((Unit)⊕(Unit)))
 have hc20:decide (v4<(p0.Owner.length:Int))=false:=Jo2 (by omega)
 refine Jq (Je [2,2,1,2,2] R (Jn 1 R (Jf R (Jb2 U37 R Z22 R R) (Jl tv R R R R (Jc2 I22 R R (hvE ((f4.stp (S9.tr (S17.tr S28)) R R).ld 0 R R))) (Jf R (Je2 U22 R R) (Jb 1 R (Jw2 R hc20 (Jc1 (Jt (Jt ?_))))))))))
 cases h
 have h:=hk29
 refine Jb1 ?_
 cases h
 exact Jw1 _ ⟨K27,R,S28.wk R,R⟩ KN
 obtain⟨o20,h,hk29⟩:=BI h;unfold s_ArenaOk_b0 at h
 have hc20:decide (v4<(p0.Owner.length:Int))=true:=Jn2 (by omega)
 refine Jq (Je [2,2,1,2,2] R (Jn 1 R (Jf R (Jb2 U37 R Z22 R R) ?_)))
 have f31:=f4.stp (S9.tr (S17.tr S28)) R R
 refine Jl tv R R R R (Jc2 I22 R R (hvE (f31.ld 0 R R))) (Jf R (Je2 U22 R R) (Jb 1 R (Jv2 R hc20 (Js (Jp (Jq (Jv (Je [2,1,2,2,1,1,2,2,2,1,2,2,1,2,2,2,2,2,1,2,2,1,2,2,2,2,2,1,2,2,1,2,1,2,2] R (Jf R (Jb2 U37 R Z22 R R) (Jl tv R R R R (Jc2 I22 R R (hvE (f31.ld 0 R R))) (Jn 1 R (Ob h fun x30 hx30 h=>Jf R (Jf2 g0_0 hx30 U22 Z2 R R R R) (Jl tv R R R R (Jc2 I2 R R (hvE ((g0_0.stp (S3.tr (S9.tr (S17.tr S28))) R R).gInt hx30))) (Ob h fun x32 hx32 h=>Jh R R R C75 (s_l1In_ok (κ:=fun b=>mp [] 0 (K27 b)) hx32) ?_))))))))))))))
 rintro _ w33 ⟨k34,rfl,e35⟩
 obtain⟨K36,S37,m38⟩:=Ji e35 5 R
 refine⟨tv,Jn 2 R (Ob h fun p42 h hK40=>Ju1 [(8,2),(9,1),(10,2),(11,2),(12,1),(13,2),(14,2),(15,2)] [(16,2),(17,2),(18,1),(19,2),(20,2),(21,1),(22,2),(23,2),(24,2),(25,2),(26,2),(27,1),(28,2),(29,2),(30,1),(31,2),(32,1),(33,2),(34,2)] (fun L w'=>L=[(1,.pointer (some ⟨b1,0,none⟩)),(3,vi (p0.Owner.length:Int)),(4,vi v4),(42,.bool p42)]∧∃κ',Stp [] K36 w33 κ' w') tv ?_ ?_)⟩
 revert h
 cases ht41:(!x32)
 refine JF fun h=>Jf R (Jb2 U37 R Z23 R R) (Jl tv R R R R (Jc2 I23 R R (hvE ((f31.stp S37 R R).ld 1 R R))) (Jn 1 R (Ob h fun x38 hx38 h=>Jf R (Jf2 g0_1 hx38 U23 Z22 R R R R) ?_)))
 obtain⟨ax38,ux38,f44,hl45⟩:=(g0_1.stp (S3.tr (S9.tr (S17.tr (S28.tr S37)))) R R).gSl hx38
 refine Jl tv R R R R (Jc2 I22 R R (hvE hl45)) (Jf R (Je2 U22 R R) (Jn 2 R ?_))
 cases h
 exact Jv1 _ tv ⟨R,_,(Jx2 _ _).wk R⟩ (KM R)
 refine JT fun h=>Jn 1 R (Jd1 R R R R (Jn 2 R (Jd1 R R R R (Jn 3 R ?_))))
 cases h
 exact Jv1 _ tv ⟨R,_,(Jx2 _ _).wk R⟩ (KM R)
 rintro _ w46 _ ⟨rfl,K47,S48⟩
 have h:=hK40
 refine Jn 1 R (Ob h fun p51 h hK49=>Ju1 [(17,2),(18,1),(19,2),(20,2),(21,1),(22,2),(23,2),(24,2)] [(25,2),(26,2),(27,1),(28,2),(29,2),(30,1),(31,2),(32,1),(33,2),(34,2)] (fun L w'=>L=[(1,.pointer (some ⟨b1,0,none⟩)),(3,vi (p0.Owner.length:Int)),(4,vi v4),(51,.bool p51)]∧∃κ',Stp [] K47 w46 κ' w') tv ?_ ?_)
 revert h
 cases ht50:p42
 refine JF fun h=>Jf R (Jb2 U37 R Z23 R R) (Jl tv R R R R (Jc2 I23 R R (hvE ((f31.stp (S37.tr S48) R R).ld 1 R R))) (Jn 1 R (Ob h fun x47 hx47 h=>Jf R (Jf2 g0_1 hx47 U23 Z22 R R R R) ?_)))
 obtain⟨ax47,ux47,f53,hl54⟩:=(g0_1.stp (S3.tr (S9.tr (S17.tr (S28.tr (S37.tr S48))))) R R).gSl hx47
 refine Jl tv R R R R (Jc2 I22 R R (hvE hl54)) (Jf R (Je2 U22 R R) (Jn 2 R ?_))
 cases h
 exact Jv1 _ tv ⟨R,_,(Jx2 _ _).wk R⟩ (KM R)
 refine JT fun h=>Jn 1 R (Jd1 R R R R (Jn 2 R (Jd1 R R R R (Jn 3 R ?_))))
 cases h
 exact Jv1 _ tv ⟨R,_,(Jx2 _ _).wk R⟩ (KM R)
 rintro _ w55 _ ⟨rfl,K56,S57⟩
 have h:=hK49
 refine Jn 1 R (Ob h fun p61 h hK58=>Ju1 [(26,2),(27,1),(28,2),(29,2),(30,1),(31,2),(32,1),(33,2),(34,2)] [] (fun L w'=>L=[(1,.pointer (some ⟨b1,0,none⟩)),(3,vi (p0.Owner.length:Int)),(4,vi v4),(61,.bool p61)]∧∃κ',Stp [] K56 w55 κ' w') tv ?_ ?_)
 revert h
 cases ht59:p51
 refine JF fun h=>Jf R (Jb2 U37 R Z23 R R) (Jl tv R R R R (Jc2 I23 R R (hvE ((f31.stp (S37.tr (S48.tr S57)) R R).ld 1 R R))) (Jn 1 R (Ob h fun x56 hx56 h=>Jf R (Jf2 g0_1 hx56 U23 Z22 R R R R) ?_)))
 obtain⟨ax56,ux56,f62,hl63⟩:=(g0_1.stp (S3.tr (S9.tr (S17.tr (S28.tr (S37.tr (S48.tr S57)))))) R R).gSl hx56
 refine Jl tv R R R R (Jc2 I22 R R (hvE hl63)) (Jn 1 R (Ob h fun x59 hx59 h=>Jh R R R C123 (s_l1Set_ok (κ:=fun b=>mp [] 0 (K56 b)) (Jl2 f62 (mp [] 0) R R) hx59) ?_))
 rintro _ w64 ⟨k65,rfl,e66⟩
 obtain⟨K67,S68,m69⟩:=Ji e66 7 R
 refine⟨tv,Jn 2 R ?_⟩
 cases h
 exact Jv1 _ tv ⟨R,_,S68.wk R⟩ (KM R)
 refine JT fun h=>Jn 1 R (Jd1 R R R R (Jn 2 R (Jd1 R R R R (Jn 1 R (Jd1 R R R R (Jn 2 R ?_))))))
 cases h
 exact Jv1 _ tv ⟨R,_,(Jx2 _ _).wk R⟩ (KM R)
 rintro _ w71 _ ⟨rfl,K72,S73⟩
 have h:=hK58
 refine Jd ?_
 revert h
 cases ht74:p61
 refine JF fun h=>Jy R (Js (Jz (Jp (Ja [2,2,2] R (Jc 3 R ?_)))))
 have hw20:IntKind.wrap .i64 (v4+1)=v4+1:=wr1 hj20 (Jm2 hc20) hN20
 rw[hw20]
 have hc20:=Jm2 hc20
 cases h
 exact Jz1 fun a ha=>⟨k,_,Ja3 _,⟨K72,v4+1,R,(S28.tr (S37.tr (S48.tr (S57.tr S73)))).wk R,by omega,by omega,hk29⟩,(ha.mm R)⟩
 refine JT fun h=>Jx R (Je [2] R (Jb 1 R (Ju (Ja1 (Jw (Jw ?_))))))
 cases h
 obtain rfl:=Option.some.inj hk29
 have h:=hK21
 dsimp only[aft]at h
 refine Ja1 (Jq2 (Jw (Ja2 (l:=[.tmp 2]) V95 (Jp2 R R) R ?_)))
 cases h
 exact⟨K72,R,(hE.stp (S3.tr (S9.tr (S17.tr (S28.tr (S37.tr (S48.tr (S57.tr S73))))))) R R)⟩
 rintro _ w23 ⟨K24,rfl,S25,rfl⟩
 have h:=hK21
 dsimp only[aft]at h
 refine Jp (Je [2] R (Jb 1 R (Ju (Ja2 (l:=[.tmp 2]) V95 (Jp2 R R) R ?_))))
 cases h
 exact⟨K24,R,(hE.stp (S3.tr (S9.tr (S17.tr S25))) R R)⟩
 refine JT fun h=>Jx R (Je [2] R (Jb 1 R (Ju (Jw (Ja2 (l:=[.tmp 2]) V95 (Jp2 R R) R ?_)))))
 cases h
 exact⟨K16,R,(hE.stp (S3.tr (S9.tr S17)) R R)⟩
theorem i_UndoneBy_ok {w:World}{κ:Col}{aa af ab ac ad ae}{p0:Parity}{p1:Edit}(g0_0_0:Rd (Rp.int .i64) κ w 0 aa af p0.Arena.Owner) (g0_0_1:Rd (Rp.sl (Rp.int .i64)) κ w 0 ab ac p0.Arena.Next) (g0_1:Rd (Rp.int .i64) κ w 0 ad ae p0.Prio){r:Edit×Bool}(h:i_UndoneBy p0 p1=some r):Ret Tryz.prog 22 [.agg #[.slice aa p0.Arena.Owner.length af,.slice ab p0.Arena.Next.length ac,.slice ad p0.Prio.length ae],.agg #[vi p1.Kind,vi p1.V,vi p1.N]] w (fun v w'=>∃(κ':Col),v= .tuple #[.agg #[vi r.1.Kind,vi r.1.V,vi r.1.N],.bool r.2]∧Ent κ w κ' w'):=by
 unfold i_UndoneBy at h
 refine Ret.enter F22 R N22 R ?_
 dsimp only[envOf]
 have hE:=Ent.refl κ w
 refine Je [1,1,1,2] R (Jf1 (κ:=κ) 2 R R R R R R R fun b2 w1 K2 S3 f4=>⟨tv,Jf1 (κ:=K2) 3 R R R R R R R fun b3 w5 K6 S7 f8=>⟨tv,Jg1 (κ:=K6) 4 R R R R R X42 R fun b4 w9 K10 S11 f12=>⟨tv,Jb 1 R (Jq (Je [1,1,2,2,1,1,1,2,2] R ?_))⟩⟩⟩)
 have f13:=f4.stp (S7.tr S11) R R
 refine Jl tv R R R R (Jd2 (cs:=[.slice aa p0.Arena.Owner.length af,.slice ab p0.Arena.Next.length ac,.slice ad p0.Prio.length ae]) I39 Z39 R R R (haE f13.cells)) (Ob h fun x7 hx7 h=>?_)
 have f14:=g0_0_0.stp (S3.tr (S7.tr S11)) R R
 have f15:=g0_0_1.stp (S3.tr (S7.tr S11)) R R
 have f16:=g0_1.stp (S3.tr (S7.tr S11)) R R
 refine Jh R R R C54 (i_ParityOk_ok (κ:=fun b=>mp [] 0 (K10 b)) (p0:=p0) (Jl2 f14 (mp [] 0) R R) (Jl2 f15 (mp [] 0) R R) (Jl2 f16 (mp [] 0) R R) hx7) ?_
 rintro _ w17 ⟨k18,rfl,e19⟩
 obtain⟨K20,S21,m22⟩:=Ji e19 5 R
 refine⟨tv,Jn 2 R (Ob h fun p14 h hK24=>Ju1 [(4,1),(5,1),(6,1),(7,2),(8,2)] [] (fun L w'=>L=[(2,.pointer (some ⟨b2,0,none⟩)),(3,.pointer (some ⟨b3,0,none⟩)),(4,.pointer (some ⟨b4,0,none⟩)),(14,.bool p14)]∧∃κ',Stp [] K20 w17 κ' w') tv ?_ ?_)⟩
 revert h
 cases ht25:(!x7)
 refine JF fun h=>Jl tv R R R R (Jd2 (cs:=[.slice aa p0.Arena.Owner.length af,.slice ab p0.Arena.Next.length ac,.slice ad p0.Prio.length ae]) I39 Z39 R R R (haE (f13.stp S21 R R).cells)) (Jl tv R R R R (Jd2 (cs:=[vi p1.Kind,vi p1.V,vi p1.N]) I42 Z42 R R R (haE (f8.stp (S11.tr S21) R R).cells)) (Ob h fun x12 hx12 h=>Jh R R R C42 (i_isEdit_ok (κ:=fun b=>mp [] 0 (K20 b)) (p0:=p0) (p1:=p1) (Jl2 (f14.stp S21 R R) (mp [] 0) R R) (Jl2 (f15.stp S21 R R) (mp [] 0) R R) (Jl2 (f16.stp S21 R R) (mp [] 0) R R) hx12) ?_))
 rintro _ w31 ⟨k32,rfl,e33⟩
 obtain⟨K34,S35,m36⟩:=Ji e33 7 R
 refine⟨tv,Jn 2 R ?_⟩
 cases h
 exact Jv1 _ tv ⟨R,_,S35.wk R⟩ (KM R)
 refine JT fun h=>Jd1 R R R R (Jd1 R R R R (Jd1 R R R R (Jn 2 R ?_)))
 cases h
 exact Jv1 _ tv ⟨R,_,(Jx2 _ _).wk R⟩ (KM R)
 rintro _ w38 _ ⟨rfl,K39,S40⟩
 have h:=hK24
 refine Jd ?_
 revert h
 cases ht41:p14
 refine JF fun h=>Jy R (Js (Jp (Jq (Je [2,1] R (Jf R (Jb2 U42 R Z2 R R) ?_)))))
 have f47:=f8.stp (S11.tr (S21.tr S40)) R R
 refine Jl tv R R R R (Jc2 I2 R R (hvE (f47.ld 0 R R))) (Jd (Jv (Je [2,2] R (Jb 2 R (Ob h fun q1 h hK48=>Jx1 (fun L w'=>∃κ',L=[(3,.pointer (some ⟨b3,0,none⟩)),(4,.pointer (some ⟨b4,0,none⟩))]∧Stp [3] K39 w38 κ' w'∧Bc κ' w' 3 b3 42 [vi q1.1,vi p1.V,vi q1.2]) ?_ ?_)))))
 revert h
 cases ht53:(p1.Kind==1)
 refine JF fun h=>Jy R (Je [2,2] R (Jb 2 R (Ob h fun q2 h hK59=>Jx1 (fun L w'=>∃κ',L=[(3,.pointer (some ⟨b3,0,none⟩)),(4,.pointer (some ⟨b4,0,none⟩))]∧Stp [3] K39 w38 κ' w'∧Bc κ' w' 3 b3 42 [vi q2.1,vi p1.V,vi q2.2]) ?_ ?_)))
 revert h
 cases ht64:(p1.Kind==2)
 refine JF fun h=>Jy R (Je [2,2] R (Jb 2 R (Ob h fun q3 h hK70=>Jx1 (fun L w'=>∃κ',L=[(3,.pointer (some ⟨b3,0,none⟩)),(4,.pointer (some ⟨b4,0,none⟩))]∧Stp [3] K39 w38 κ' w'∧Bc κ' w' 3 b3 42 [vi q3,vi p1.V,vi p1.N]) ?_ ?_)))
 revert h
 cases ht75:(p1.Kind==3)
 refine JF fun h=>Jy R (Ja [2,1] R (Jf R (Jb2 U42 R Z2 R R) (Ji1 (κ:=K39) 3 (off:=0) (vc:=[vi 3]) (cs':=[vi 3,vi p1.V,vi p1.N]) R R R R R R R Z2 R R f47 R R fun w79 S80 f81=>⟨tv,Jo ?_⟩)))
 cases h
 exact Jw1 _ ⟨K39,R,S80.wk R,f81⟩ (KM R)
 refine JT fun h=>Jx R (Ja [2,1] R (Jf R (Jb2 U42 R Z2 R R) (Ji1 (κ:=K39) 3 (off:=0) (vc:=[vi 4]) (cs':=[vi 4,vi p1.V,vi p1.N]) R R R R R R R Z2 R R f47 R R fun w76 S77 f78=>⟨tv,Jo ?_⟩)))
 cases h
 exact Jw1 _ ⟨K39,R,S77.wk R,f78⟩ (KM R)
 rintro _ w71 ⟨K72,rfl,S73,f74⟩
 have h:=hK70
 cases h
 exact Jw1 _ ⟨K72,R,S73.wk R,f74⟩ (KM R)
 refine JT fun h=>Jx R (Ja [2,2,1,2,1,2,1,2,1] R (Jf R (Jb2 U39 R Z37 R R) (Jf R (Jb2 U37 R Z22 R R) (Jl tv R R R R (Jc2 I22 R R (hvE ((f13.stp (S21.tr S40) R R).ld 0 R R))) (Jf R (Jb2 U42 R Z2 R R) (Jl tv R R R R (Jc2 I2 R R (hvE (f47.ld 1 R R))) (Ob h fun x35 hx35 h=>Jf R (Jf2 f14 hx35 U22 Z2 R R R R) (Jl tv R R R R (Jc2 I2 R R (hvE ((f14.stp (S21.tr S40) R R).gInt hx35))) (Jf R (Jb2 U42 R Z2 R R) (Ji1 (κ:=K39) 3 (off:=2) (vc:=[vi x35]) (cs':=[vi p1.Kind,vi p1.V,vi x35]) R R R R R R R Z2 R R f47 R R fun w67 S68 f69=>⟨tv,Jo ?_⟩))))))))))
 cases h
 exact Jw1 _ ⟨K39,R,S68.wk R,f69⟩ (KM R)
 rintro _ w60 ⟨K61,rfl,S62,f63⟩
 have h:=hK59
 cases h
 exact Jw1 _ ⟨K61,R,S62.wk R,f63⟩ (KM R)
 refine JT fun h=>Jx R (Ja [2,1,2,1,2,1,2,1] R (Jf R (Jb2 U39 R Z22 R R) (Jl tv R R R R (Jc2 I22 R R (hvE ((f13.stp (S21.tr S40) R R).ld 2 R R))) (Jf R (Jb2 U42 R Z2 R R) (Jl tv R R R R (Jc2 I2 R R (hvE (f47.ld 1 R R))) (Ob h fun x25 hx25 h=>Jf R (Jf2 f16 hx25 U22 Z2 R R R R) (Jl tv R R R R (Jc2 I2 R R (hvE ((f16.stp (S21.tr S40) R R).gInt hx25))) (Jf R (Jb2 U42 R Z2 R R) (Ji1 (κ:=K39) 3 (off:=2) (vc:=[vi x25]) (cs':=[vi p1.Kind,vi p1.V,vi x25]) R R R R R R R Z2 R R f47 R R fun w56 S57 f58=>⟨tv,Jo ?_⟩)))))))))
 cases h
 exact Jw1 _ ⟨K39,R,S57.wk R,f58⟩ (KM R)
 rintro _ w49 ⟨K50,rfl,S51,f52⟩
 have h:=hK48
 refine Jz (Jp (Je [1,1,2] R (Jl tv R R R R (Jd2 (cs:=[vi q1.1,vi p1.V,vi q1.2]) I42 Z42 R R R (haE f52.cells)) (Jj1 (κ:=K50) 4 (vc:=[vi q1.1,vi p1.V,vi q1.2]) R R R R R R R Z42 R R (f12.stp (S21.tr (S40.tr S51)) R R) R fun w83 S84 f85=>⟨tv,Jb 1 R (Ju (Ja2 (l:=[.cell 4 42,.tmp 5]) V22 (res_cellA R f85 I42 Z42 R (Jp2 R R)) R ?_))⟩))))
 cases h
 exact⟨K50,R,(hE.stp (S3.tr (S7.tr (S11.tr (S21.tr (S40.tr (S51.tr S84)))))) R R)⟩
 refine JT fun h=>Jx R (Je [2,1,2] R (Jf R (rn_build (parts:=[]) (cells:=[vi 0,vi 0,vi 0]) R R (by kernel_rfl)) (Jj1 (κ:=K39) 4 (vc:=[vi 0,vi 0,vi 0]) R R R R R R R Z42 R R (f12.stp (S21.tr S40) R R) R fun w43 S44 f45=>⟨tv,Jb 1 R (Ju (Jw (Ja2 (l:=[.cell 4 42,.tmp 5]) V22 (res_cellA R f45 I42 Z42 R (Jp2 R R)) R ?_)))⟩)))
 cases h
 exact⟨K39,R,(hE.stp (S3.tr (S7.tr (S11.tr (S21.tr (S40.tr S44))))) R R)⟩
theorem s_l7Win_ok (n:Nat):∀{w:World}{κ:Col}{am af ah ad ai al ac ak ae aj}{p0:l7Game}{a1 u1}{p1:(List Bool)}(g0_0:Rd (Rp.int .i64) κ w 0 am af p0.owner) (g0_1:Rd (Rp.int .i64) κ w 0 ah ad p0.prio) (g0_2:Rd (Rp.sl (Rp.int .i64)) κ w 0 ai al p0.next) (g0_3:Rd (Rp.sl (Rp.int .i64)) κ w 0 ac ak p0.prev) (g0_4:Rd (Rp.int .i64) κ w 0 ae aj p0.pick) (g1:Rd Rp.bool κ w 0 a1 u1 p1){r:(List Bool)}(h:s_l7Win n p0 p1=some r),Ret Tryz.prog 126 [.agg #[.slice am p0.owner.length af,.slice ah p0.prio.length ad,.slice ai p0.next.length al,.slice ac p0.prev.length ak,.slice ae p0.pick.length aj],.slice a1 p1.length u1] w (fun v w'=>∃(κ':Col) (ra0:Option Addr) (ru0:Nat),v= .slice ra0 r.length ru0∧Ent κ w κ' w'∧Oc Ep.bool 4 κ' w' 2 ra0 ru0 r):=by
 induction n with
 | zero=>
  intro w κ am af ah ad ai al ac ak ae aj p0 a1 u1 p1 g0_0 g0_1 g0_2 g0_3 g0_4 g1 r h
  cases h
 | succ n ih=>
  intro w κ am af ah ad ai al ac ak ae aj p0 a1 u1 p1 g0_0 g0_1 g0_2 g0_3 g0_4 g1 r h
  have h:s_l7Win_s (s_l7Win n) p0 p1=some r:=h
  unfold s_l7Win_s at h
  refine Ret.enter F126 R N126 R ?_
  dsimp only[envOf]
  have hE:=Ent.refl κ w
  refine Je [1,2] R (Jf1 (κ:=κ) 2 R R R R R R R fun b2 w1 K2 S3 f4=>⟨tv,Jb 1 R (Je [1,2,1,2] R (Jl tv R R R R (Jd2 (cs:=[.slice am p0.owner.length af,.slice ah p0.prio.length ad,.slice ai p0.next.length al,.slice ac p0.prev.length ak,.slice ae p0.pick.length aj]) I111 Z111 R R R (haE f4.cells)) (Jn 1 R (Ob h fun x21 hx21 h=>?_))))⟩)
  have f5:=g0_0.stp S3 R R
  have f6:=g0_1.stp S3 R R
  have f7:=g0_2.stp S3 R R
  have f8:=g0_3.stp S3 R R
  have f9:=g0_4.stp S3 R R
  have f10:=g1.stp S3 R R
  refine Jh R R R C149 (s_l7Top_ok (κ:=fun b=>mp [] 0 (K2 b)) (p0:=p0) (Jl2 f5 (mp [] 0) R R) (Jl2 f6 (mp [] 0) R R) (Jl2 f7 (mp [] 0) R R) (Jl2 f8 (mp [] 0) R R) (Jl2 f9 (mp [] 0) R R) (Jl2 f10 (mp [] 0) R R) hx21) ?_
  rintro _ w11 ⟨k12,rfl,e13⟩
  obtain⟨K14,S15,m16⟩:=Ji e13 3 R
  refine⟨tv,Jb 1 R (Je [2,2,1,2] R (Jn 1 R (Jf R (Je2 U70 R R) (Ob h fun x24 hx24 h=>Jl1 (κ:=K14) (E:=Ep.bool) (z:=(false:Bool)) 5 R R R R R R R Y70 Tryzinfo4 R R R R R (fun _ _ _=>R) (Ju2 hx24) fun aa ab w18 K19 S20 f21=>⟨tv,Jb 1 R (Jq (Je [2,2] R (Jb 2 R ?_)))⟩))))⟩
  revert h
  cases ht22:decide (x21<0)
  refine JF fun h=>Jy R (Js (Jp (Je [2,2,2] R (Jn 1 R (Jf R (rn_rem R R R (by decide)) (Jb 1 R (Je [2,2,1,2] R (Jn 1 R (Jf R (Je2 U70 R R) (Ob h fun x32 hx32 h=>Jl1 (κ:=K19) (E:=Ep.bool) (z:=(false:Bool)) 6 R R R R R R R Y70 Tryzinfo4 R R R R R (fun _ _ _=>R) (Ju2 hx32) fun aq ap w24 K25 S26 f27=>⟨tv,Jb 1 R (Jq (Je [2] R (Jb 1 R ?_)))⟩))))))))))
  have hN28:(p1.length:Int)≤9223372036854775807:=f10.len_le
  refine Ob h fun q2 hq30 hK29=>?_
  clear h
  refine Jx1 (fun L w'=>∃κ',∃s3:(List Bool),L=[(1,.slice a1 p1.length u1),(2,.pointer (some ⟨b2,0,none⟩)),(6,.slice aa x24.length ab),(7,vi (Int.tmod x21 2)),(8,.slice aq x32.length ap)]∧Stp [6] K25 w24 κ' w'∧Oc Ep.bool 4 κ' w' 6 aq ap s3∧x32.length=s3.length∧q2=Sum.inr s3) ?_ ?_
  refine Jv (Jy1 (fun k L w'=>∃κ' v9,∃s1:(List Bool),L=[(1,.slice a1 p1.length u1),(2,.pointer (some ⟨b2,0,none⟩)),(5,vi x21),(6,.slice aa x24.length ab),(7,vi (Int.tmod x21 2)),(8,.slice aq x32.length ap),(9,vi v9)]∧Stp [6] K25 w24 κ' w'∧Oc Ep.bool 4 κ' w' 6 aq ap s1∧x32.length=s1.length∧0≤v9∧Int.toNat ((p1.length:Int)-v9)=k∧cntM (s_l7Win_b0 p0 p1 x21) k v9 s1=some q2) ⟨_,_,⟨K25,0,(x32:(List Bool)),R,(Jx2 _ _).wk R,f27,R,(by decide),(by simp),hq30⟩,(KM R)⟩ ?_)
  rintro k _ w36 ⟨K37,v9,s1,rfl,S38,f39,hn40,hj28,hJ28,h⟩
  rcases k with _ | k
  have hk41:=h;obtain⟨o28,h⟩:=ex_eq (Sum.inr (Sum.inl s1):(List Bool)⊕(((List Bool))⊕((List Bool))))
  have hc28:decide (v9<(p1.length:Int))=false:=Jo2 (by omega)
  refine Jq (Je [2,2,2,2] R (Jn 2 R (Jf R (Je2 U70 R R) (Jb 1 R (Jw2 R hc28 (Jc1 (Jt (Jt ?_))))))))
  cases h
  have h:=hk41
  refine Jb1 ?_
  cases h
  exact Jw1 _ ⟨K37,(s1:(List Bool)),R,S38.wk R,f39,hn40,R⟩ (KM R)
  obtain⟨o28,h,hk41⟩:=BI h;unfold s_l7Win_b0 at h
  have hc28:decide (v9<(p1.length:Int))=true:=Jn2 (by omega)
  refine Jq (Je [2,2,2,2] R (Jn 2 R (Jf R (Je2 U70 R R) (Jb 1 R (Jv2 R hc28 (Js (Jp (Jq (Jv (Ja [2,2,2,2,2,1,2,2,1,2,2,1,2,2,2,2,1] R (Jn 4 R (Ob h fun x43 hx43 h=>Jf R (Jf2 f10 hx43 U70 Z4 R R R R) (Jl tv R R R R (Jc2 I4 R R (hvE ((f10.stp (S15.tr (S20.tr (S26.tr S38))) R R).gBool hx43))) (Jn 1 R (Ob h fun p53 h hK43=>Ju1 [(7,2),(8,1),(9,2),(10,2),(11,1),(12,2),(13,2),(14,2)] [(15,2),(16,1)] (fun L w'=>L=[(1,.slice a1 p1.length u1),(2,.pointer (some ⟨b2,0,none⟩)),(5,vi x21),(6,.slice aa x24.length ab),(7,vi (Int.tmod x21 2)),(8,.slice aq x32.length ap),(9,vi v9),(39,.slice aq x32.length ap),(40,vi v9),(53,.bool p53)]∧∃κ',Stp [] K37 w36 κ' w') tv ?_ ?_)))))))))))))))
  revert h
  cases ht44:x43
  refine JF fun h=>Jn 1 R (Jd1 R R R R (Jn 2 R (Jd1 R R R R (Jn 3 R ?_))))
  cases h
  exact Jv1 _ tv ⟨R,_,(Jx2 _ _).wk R⟩ (KM R)
  have S001:=(S15.tr (S20.tr (S26.tr S38)))
  refine JT fun h=>Jf R (Jb2 U111 R Z22 R R) (Jl tv R R R R (Jc2 I22 R R (hvE ((f4.stp S001 R R).ld 1 R R))) (Jn 1 R (Ob h fun x49 hx49 h=>Jf R (Jf2 f6 hx49 U22 Z2 R R R R) (Jl tv R R R R (Jc2 I2 R R (hvE ((f6.stp S001 R R).gInt hx49))) (Jn 3 R ?_)))))
  cases h
  exact Jv1 _ tv ⟨R,_,(Jx2 _ _).wk R⟩ (KM R)
  rintro _ w47 _ ⟨rfl,K48,S49⟩
  have h:=hK43
  refine Ob h fun x54 hx54 h=>Jf R (Jf2 f39.rdc hx54 U70 Z4 R R hn40 R) (Ob h fun y190 hy190 h=>Jk1 (κ:=K48) (E:=Ep.bool) 6 [] R R R R R R R R Z4 R R R R (f39.stp S49 R R) hy190 fun w51 K52 S53 f54=>⟨tv,?_⟩)
  have hn55:x32.length=y190.length:=hn40.trans (Jt2 hy190).2.2.2.symm
  refine Jo (Jz (Jp (Ja [2,2,2] R (Jc 3 R ?_))))
  have hw28:IntKind.wrap .i64 (v9+1)=v9+1:=wr1 hj28 (Jm2 hc28) hN28
  rw[hw28]
  have hc28:=Jm2 hc28
  cases h
  exact Jz1 fun a ha=>⟨k,_,Ja3 _,⟨K52,v9+1,(y190:(List Bool)),R,(S38.tr (S49.tr S53)).wk R,f54,hn55,by omega,by omega,hk41⟩,(ha.mm R)⟩
  rintro _ w31 ⟨K32,s3,rfl,S33,f34,hn35,rfl⟩
  have h:=hK29
  dsimp only[aft]at h
  refine Jp (Je [2,1,2,2,2,1,1,2] R (Jn 1 R ?_))
  have f56:=f4.stp (S15.tr (S20.tr (S26.tr S33))) R R
  refine Jl tv R R R R (Jd2 (cs:=[.slice am p0.owner.length af,.slice ah p0.prio.length ad,.slice ai p0.next.length al,.slice ac p0.prev.length ak,.slice ae p0.pick.length aj]) I111 Z111 R R R (haE f56.cells)) (Jn 3 R (Ob h fun x60 hx60 h=>?_))
  have f57:=f5.stp (S15.tr (S20.tr (S26.tr S33))) R R
  have f58:=f6.stp (S15.tr (S20.tr (S26.tr S33))) R R
  have f59:=f7.stp (S15.tr (S20.tr (S26.tr S33))) R R
  have f60:=f8.stp (S15.tr (S20.tr (S26.tr S33))) R R
  have f61:=f9.stp (S15.tr (S20.tr (S26.tr S33))) R R
  have f62:=f10.stp (S15.tr (S20.tr (S26.tr S33))) R R
  refine Jh R R R C151 (Ret.cast (by simp only[hn35,List.cons_append,List.nil_append]) (s_l7Attract_ok (κ:=fun b=>mp [] 0 (K32 b)) (p0:=p0) (Jl2 f57 (mp [] 0) R R) (Jl2 f58 (mp [] 0) R R) (Jl2 f59 (mp [] 0) R R) (Jl2 f60 (mp [] 0) R R) (Jl2 f61 (mp [] 0) R R) (Jl2 f62 (mp [] 0) R R) (Jl2 f34.rdc (mp [] 0) R R) hx60)) ?_
  rintro _ w63 ⟨k64,aB,aD,rfl,e65,f66⟩
  obtain⟨K67,S68,m69⟩:=Ji e65 7 R
  refine⟨tv,Ob h fun x61 hx61 h=>?_⟩
  have f72:=f62.stp S68 R R
  refine Jh R R R C150 (s_l7Less_ok (κ:=fun b=>mp [] 0 (K67 b)) (Jl2 f72 (mp [] 0) R R) (Jl2 (f66.mx no_bool m69 R (R:7+2=9)).rdc (mp [] 0) R R) hx61) ?_
  rintro _ w73 ⟨k74,az,ay,rfl,e75,f76⟩
  obtain⟨K77,S78,m79⟩:=Ji e75 10 R
  refine⟨tv,?_⟩
  have f81:=f76.mx no_bool m79 R (R:10+2=12)
  refine Jb 1 R (Je [1,2,1,2] R ?_)
  have f82:=f56.stp (S68.tr S78) R R
  refine Jl tv R R R R (Jd2 (cs:=[.slice am p0.owner.length af,.slice ah p0.prio.length ad,.slice ai p0.next.length al,.slice ac p0.prev.length ak,.slice ae p0.pick.length aj]) I111 Z111 R R R (haE f82.cells)) (Jn 1 R (Ob h fun x64 hx64 h=>?_))
  have f83:=f57.stp (S68.tr S78) R R
  have f84:=f58.stp (S68.tr S78) R R
  have f85:=f59.stp (S68.tr S78) R R
  have f86:=f60.stp (S68.tr S78) R R
  have f87:=f61.stp (S68.tr S78) R R
  refine Jh R R R C126 (ih (κ:=fun b=>mp [] 0 (K77 b)) (p0:=p0) (Jl2 f83 (mp [] 0) R R) (Jl2 f84 (mp [] 0) R R) (Jl2 f85 (mp [] 0) R R) (Jl2 f86 (mp [] 0) R R) (Jl2 f87 (mp [] 0) R R) (Jl2 f81.rdc (mp [] 0) R R) hx64) ?_
  rintro _ w88 ⟨k89,av,aw,rfl,e90,f91⟩
  obtain⟨K92,S93,m94⟩:=Ji e90 13 R
  refine⟨tv,?_⟩
  have f96:=f91.mx no_bool m94 R (R:13+2=15)
  refine Jb 1 R (Je [2,2,1,2] R (Jn 1 R (Jf R (Je2 U70 R R) (Ob h fun x67 hx67 h=>Jl1 (κ:=K92) (E:=Ep.bool) (z:=(false:Bool)) 16 R R R R R R R Y70 Tryzinfo4 R R R R R (fun _ _ _=>R) (Ju2 hx67) fun ao an w97 K98 S99 f100=>⟨tv,Jb 1 R (Je [2] R (Jb 1 R (Jq (Je [2] R (Jb 1 R ?_)))))⟩))))
  have hN101:(p1.length:Int)≤9223372036854775807:=f72.len_le
  refine Ob h fun q5 hq103 hK102=>?_
  clear h
  refine Jx1 (fun L w'=>∃κ',∃s6:Bool×(List Bool),L=[(1,.slice a1 p1.length u1),(2,.pointer (some ⟨b2,0,none⟩)),(6,.slice aa x24.length ab),(7,vi (Int.tmod x21 2)),(12,.slice ao x67.length an),(13,.bool s6.1)]∧Stp [16] K98 w97 κ' w'∧Oc Ep.bool 4 κ' w' 16 ao an s6.2∧x67.length=s6.2.length∧q5=Sum.inr s6) ?_ ?_
  refine Jv (Jy1 (fun k L w'=>∃κ' v14,∃s4:Bool×(List Bool),L=[(1,.slice a1 p1.length u1),(2,.pointer (some ⟨b2,0,none⟩)),(6,.slice aa x24.length ab),(7,vi (Int.tmod x21 2)),(10,.slice az x61.length ay),(11,.slice av x64.length aw),(12,.slice ao x67.length an),(13,.bool s4.1),(14,vi v14)]∧Stp [16] K98 w97 κ' w'∧Oc Ep.bool 4 κ' w' 16 ao an s4.2∧x67.length=s4.2.length∧0≤v14∧Int.toNat ((p1.length:Int)-v14)=k∧cntM (s_l7Win_b2 x21 x61 x64) k v14 s4=some q5) ⟨_,_,⟨K98,0,((false:Bool),(x67:(List Bool))),R,(Jx2 _ _).wk R,f100,R,(by decide),(by simp),hq103⟩,(KM R)⟩ ?_)
  rintro k _ w109 ⟨K110,v14,s4,rfl,S111,f112,hn113,hj101,hJ101,h⟩
  rcases k with _ | k
  have hk114:=h;obtain⟨o101,h⟩:=ex_eq (Sum.inr (Sum.inl s4):(List Bool)⊕((Bool×(List Bool))⊕(Bool×(List Bool))))
  have hc101:decide (v14<(p1.length:Int))=false:=Jo2 (by omega)
  refine Jq (Je [2,2,2,2] R (Jn 2 R (Jf R (Je2 U70 R R) (Jb 1 R (Jw2 R hc101 (Jc1 (Jt (Jt ?_))))))))
  cases h
  have h:=hk114
  refine Jb1 ?_
  cases h
  exact Jw1 _ ⟨K110,((s4.1:Bool),(s4.2:(List Bool))),R,S111.wk R,f112,hn113,R⟩ (KM R)
  obtain⟨o101,h,hk114⟩:=BI h;unfold s_l7Win_b2 at h
  have hc101:decide (v14<(p1.length:Int))=true:=Jn2 (by omega)
  refine Jq (Je [2,2,2,2] R (Jn 2 R (Jf R (Je2 U70 R R) (Jb 1 R (Jv2 R hc101 (Js (Jp (Jq (Jv (Je [2,2,2,2,2,1,2,2,2,2,1,2,2,2,2,2,1] R (Jn 4 R (Ob h fun x78 hx78 h=>Jf R (Jf2 f81.rdc hx78 U70 Z4 R R R R) (Jl tv R R R R (Jc2 I4 R R (hvE ((f81.stp (S93.tr (S99.tr S111)) R R).rdc.gBool hx78))) (Jn 1 R (Ob h fun p88 h hK116=>Ju1 [(7,2),(8,2),(9,2),(10,1),(11,2),(12,2),(13,2),(14,2)] [(15,2),(16,1)] (fun L w'=>L=[(1,.slice a1 p1.length u1),(2,.pointer (some ⟨b2,0,none⟩)),(6,.slice aa x24.length ab),(7,vi (Int.tmod x21 2)),(10,.slice az x61.length ay),(11,.slice av x64.length aw),(12,.slice ao x67.length an),(13,.bool s4.1),(14,vi v14),(74,.slice ao x67.length an),(75,vi v14),(88,.bool p88)]∧∃κ',Stp [] K110 w109 κ' w') tv ?_ ?_)))))))))))))))
  revert h
  cases ht117:x78
  refine JF fun h=>Jn 3 R (Jd1 R R R R (Jn 4 R ?_))
  cases h
  exact Jv1 _ tv ⟨R,_,(Jx2 _ _).wk R⟩ (KM R)
  refine JT fun h=>Jn 2 R (Ob h fun x83 hx83 h=>Jf R (Jf2 f96.rdc hx83 U70 Z4 R R R R) (Jl tv R R R R (Jc2 I4 R R (hvE ((f96.stp (S99.tr S111) R R).rdc.gBool hx83))) (Jn 2 R (Jf R (rn_neqB R R U4 R) (Jn 1 R ?_)))))
  cases h
  exact Jv1 _ tv ⟨R,_,(Jx2 _ _).wk R⟩ (KM R)
  rintro _ w119 _ ⟨rfl,K120,S121⟩
  have h:=hK116
  refine Ob h fun x89 hx89 h=>Jf R (Jf2 f112.rdc hx89 U70 Z4 R R hn113 R) (Ob h fun y209 hy209 h=>Jk1 (κ:=K120) (E:=Ep.bool) 16 [] R R R R R R R R Z4 R R R R (f112.stp S121 R R) hy209 fun w123 K124 S125 f126=>⟨tv,?_⟩)
  have hn127:x67.length=y209.length:=hn113.trans (Jt2 hy209).2.2.2.symm
  refine Jd (Ja [2,2,2,2,2,1,2,2] R (Jn 2 R (Ob h fun p96 h hK128=>Ju1 [(2,2),(3,2),(4,2),(5,1),(6,2)] [(7,2)] (fun L w'=>L=[(1,.slice a1 p1.length u1),(2,.pointer (some ⟨b2,0,none⟩)),(6,.slice aa x24.length ab),(7,vi (Int.tmod x21 2)),(10,.slice az x61.length ay),(11,.slice av x64.length aw),(12,.slice ao x67.length an),(13,.bool s4.1),(14,vi v14),(96,.bool p96)]∧∃κ',Stp [] K124 w123 κ' w') tv ?_ ?_)))
  revert h
  cases ht129:s4.1
  refine JF fun h=>Jn 2 R (Ob h fun x94 hx94 h=>Jf R (Jf2 f126.rdc hx94 U70 Z4 R R hn127 R) (Jl tv R R R R (Jc2 I4 R R (hvE (f126.rdc.gBool hx94))) (Jn 1 R ?_)))
  cases h
  exact Jv1 _ tv ⟨R,_,(Jx2 _ _).wk R⟩ (KM R)
  refine JT fun h=>Jn 3 R (Jd1 R R R R (Jn 1 R ?_))
  cases h
  exact Jv1 _ tv ⟨R,_,(Jx2 _ _).wk R⟩ (KM R)
  rintro _ w130 _ ⟨rfl,K131,S132⟩
  have h:=hK128
  refine Jc 1 R (Jz (Jp (Ja [2,2,2] R (Jc 3 R ?_))))
  have hw101:IntKind.wrap .i64 (v14+1)=v14+1:=wr1 hj101 (Jm2 hc101) hN101
  rw[hw101]
  have hc101:=Jm2 hc101
  cases h
  exact Jz1 fun a ha=>⟨k,_,Ja3 _,⟨K131,v14+1,((p96:Bool),(y209:(List Bool))),R,(S111.tr (S121.tr (S125.tr S132))).wk R,(f126.stp S132 R R),hn127,by omega,by omega,hk114⟩,(ha.mm R)⟩
  rintro _ w104 ⟨K105,s6,rfl,S106,f107,hn108,rfl⟩
  have h:=hK102
  dsimp only[aft]at h
  refine Jp (Jq (Je [2,2] R (Jb 2 R ?_)))
  revert h
  cases ht134:(!s6.1)
  refine JF fun h=>Jy R (Js (Jp (Je [1,2,2,2,2,1,2] R ?_)))
  have f163:=f82.stp (S93.tr (S99.tr S106)) R R
  refine Jl tv R R R R (Jd2 (cs:=[.slice am p0.owner.length af,.slice ah p0.prio.length ad,.slice ai p0.next.length al,.slice ac p0.prev.length ak,.slice ae p0.pick.length aj]) I111 Z111 R R R (haE f163.cells)) (Jn 4 R (Ob h fun x122 hx122 h=>?_))
  have f164:=f83.stp (S93.tr (S99.tr S106)) R R
  have f165:=f84.stp (S93.tr (S99.tr S106)) R R
  have f166:=f85.stp (S93.tr (S99.tr S106)) R R
  have f167:=f86.stp (S93.tr (S99.tr S106)) R R
  have f168:=f87.stp (S93.tr (S99.tr S106)) R R
  have f169:=f72.stp (S78.tr (S93.tr (S99.tr S106))) R R
  refine Jh R R R C151 (Ret.cast (by simp only[hn108,List.cons_append,List.nil_append]) (s_l7Attract_ok (κ:=fun b=>mp [] 0 (K105 b)) (p0:=p0) (Jl2 f164 (mp [] 0) R R) (Jl2 f165 (mp [] 0) R R) (Jl2 f166 (mp [] 0) R R) (Jl2 f167 (mp [] 0) R R) (Jl2 f168 (mp [] 0) R R) (Jl2 f169 (mp [] 0) R R) (Jl2 f107.rdc (mp [] 0) R R) hx122)) ?_
  rintro _ w170 ⟨k171,ar,au,rfl,e172,f173⟩
  obtain⟨K174,S175,m176⟩:=Ji e172 17 R
  refine⟨tv,Jb 1 R (Jq (Js1 (κ:=K174) [2] none [(1,2),(2,2),(0,0),(3,1),(4,1),(5,2)] [] (by kernel_rfl) (by kernel_rfl) fun w180 S179=>Jn 2 R (Jg R (Jd2 (cs:=[.slice am p0.owner.length af,.slice ah p0.prio.length ad,.slice ai p0.next.length al,.slice ac p0.prev.length ak,.slice ae p0.pick.length aj]) I111 Z111 R R R (haC (f163.stp (S175.tr S179) R R).cells R)) (Ob h fun x126 hx126 h=>?_))))⟩
  have f182:=f169.stp (S175.tr S179) R R
  have f183:=(f173.mx no_bool m176 R (R:17+2=19)).stp S179 R R
  refine Jh R R R C150 (s_l7Less_ok (κ:=fun b=>mp [] 0 (K174 b)) (Jl2 f182 (mp [] 0) R R) (Jl2 f183.rdc (mp [] 0) R R) hx126) ?_
  rintro _ w184 ⟨k185,aE,aC,rfl,e186,f187⟩
  obtain⟨K188,S189,m190⟩:=Ji e186 20 R
  have S002:=(S175.tr (S179.tr S189))
  refine⟨(S189.cl R),Ob h fun x127 hx127 h=>Jh R R R C126 (ih (κ:=fun b=>mp [] 0 (K188 b)) (p0:=p0) (Jl2 (f164.stp S002 R R) (mp [] 0) R R) (Jl2 (f165.stp S002 R R) (mp [] 0) R R) (Jl2 (f166.stp S002 R R) (mp [] 0) R R) (Jl2 (f167.stp S002 R R) (mp [] 0) R R) (Jl2 (f168.stp S002 R R) (mp [] 0) R R) (Jl2 (f187.mx no_bool m190 R (R:20+2=22)).rdc (mp [] 0) R R) hx127) ?_⟩
  rintro _ w198 ⟨k199,aA,ax,rfl,e200,f201⟩
  obtain⟨K202,S203,m204⟩:=Ji e200 23 R
  refine⟨((S189.tr S203).cl R),?_⟩
  have f206:=f201.mx no_bool m204 R (R:23+2=25)
  refine Jn 1 R (Jt1 (Jd (Jq (Je [2] R (Jb 1 R ?_)))))
  have hN207:(p1.length:Int)≤9223372036854775807:=f182.len_le
  refine Ob h fun q11 hq209 hK208=>?_
  clear h
  refine Jx1 (fun L w'=>∃κ',∃s12:(List Bool),L=[(6,.slice aa x24.length ab)]∧Stp [5] K202 w198 κ' w'∧Oc Ep.bool 4 κ' w' 5 aa ab s12∧x24.length=s12.length∧q11=Sum.inr s12) ?_ ?_
  refine Jv (Jy1 (fun k L w'=>∃κ' v18,∃s10:(List Bool),L=[(1,.slice a1 p1.length u1),(6,.slice aa x24.length ab),(7,vi (Int.tmod x21 2)),(16,.slice ar x122.length au),(17,.slice aA x127.length ax),(18,vi v18)]∧Stp [5] K202 w198 κ' w'∧Oc Ep.bool 4 κ' w' 5 aa ab s10∧x24.length=s10.length∧0≤v18∧Int.toNat ((p1.length:Int)-v18)=k∧cntM (s_l7Win_b6 x21 x122 x127) k v18 s10=some q11) ⟨_,_,⟨K202,0,(x24:(List Bool)),R,(Jx2 _ _).wk R,(f21.stp (S26.tr (S33.tr (S68.tr (S78.tr (S93.tr (S99.tr (S106.tr (S175.tr (S179.tr (S189.tr S203)))))))))) R R),R,(by decide),(by simp),hq209⟩,(KM R)⟩ ?_)
  rintro k _ w215 ⟨K216,v18,s10,rfl,S217,f218,hn219,hj207,hJ207,h⟩
  rcases k with _ | k
  have hk221:=h;obtain⟨o207,h⟩:=ex_eq (Sum.inr (Sum.inl s10):(List Bool)⊕(((List Bool))⊕((List Bool))))
  have hc207:decide (v18<(p1.length:Int))=false:=Jo2 (by omega)
  refine Jq (Je [2,2,2,2] R (Jn 2 R (Jf R (Je2 U70 R R) (Jb 1 R (Jw2 R hc207 (Jc1 (Jt (Jt ?_))))))))
  cases h
  have h:=hk221
  refine Jb1 ?_
  cases h
  exact Jw1 _ ⟨K216,(s10:(List Bool)),R,S217.wk R,f218,hn219,R⟩ (KM R)
  obtain⟨o207,h,hk221⟩:=BI h;unfold s_l7Win_b6 at h
  have hc207:decide (v18<(p1.length:Int))=true:=Jn2 (by omega)
  refine Jq (Je [2,2,2,2] R (Jn 2 R (Jf R (Je2 U70 R R) (Jb 1 R (Jv2 R hc207 (Js (Jp (Jq (Jv (Ja [2,2,2,2,2,1,2,2,2,2,1,2,2,2,2,2,2,1] R (Jn 4 R (Ob h fun x138 hx138 h=>Jf R (Jf2 f206.rdc hx138 U70 Z4 R R R R) (Jl tv R R R R (Jc2 I4 R R (hvE ((f206.stp S217 R R).rdc.gBool hx138))) (Jn 1 R (Ob h fun p149 h hK223=>Ju1 [(7,2),(8,2),(9,2),(10,1),(11,2),(12,2),(13,2),(14,2),(15,2)] [(16,2),(17,1)] (fun L w'=>L=[(1,.slice a1 p1.length u1),(6,.slice aa x24.length ab),(7,vi (Int.tmod x21 2)),(16,.slice ar x122.length au),(17,.slice aA x127.length ax),(18,vi v18),(134,.slice aa x24.length ab),(135,vi v18),(149,.bool p149)]∧∃κ',Stp [] K216 w215 κ' w') tv ?_ ?_)))))))))))))))
  revert h
  cases ht224:x138
  refine JF fun h=>Jn 2 R (Ob h fun x143 hx143 h=>Jf R (Jf2 f183.rdc hx143 U70 Z4 R R R R) (Jl tv R R R R (Jc2 I4 R R (hvE ((f183.stp (S189.tr (S203.tr S217)) R R).rdc.gBool hx143))) (Jn 1 R (Ob h fun p148 h hK226=>Ju1 [(12,2),(13,2),(14,2)] [(15,2)] (fun L w'=>L=[(1,.slice a1 p1.length u1),(6,.slice aa x24.length ab),(7,vi (Int.tmod x21 2)),(16,.slice ar x122.length au),(17,.slice aA x127.length ax),(18,vi v18),(134,.slice aa x24.length ab),(135,vi v18),(140,.bool false),(141,.slice ar x122.length au),(142,vi v18),(143,.pointer (some (aAt ar (v18.toNat * 1)))),(144,.bool x143),(145,.bool x143),(148,.bool p148)]∧∃κ',Stp [] K216 w215 κ' w') tv ?_ ?_))))
  revert h
  cases ht227:x143
  refine JF fun h=>Jn 3 R ?_
  cases h
  exact Jv1 _ tv ⟨R,_,(Jx2 _ _).wk R⟩ (KM R)
  refine JT fun h=>Jn 3 R ?_
  cases h
  exact Jv1 _ tv ⟨R,_,(Jx2 _ _).wk R⟩ (KM R)
  rintro _ w228 _ ⟨rfl,K229,S230⟩
  have h:=hK226
  refine Jn 1 R ?_
  cases h
  exact Jv1 _ tv ⟨R,_,S230.wk R⟩ (KM R)
  refine JT fun h=>Jn 3 R (Jd1 R R R R (Jn 5 R ?_))
  cases h
  exact Jv1 _ tv ⟨R,_,(Jx2 _ _).wk R⟩ (KM R)
  rintro _ w231 _ ⟨rfl,K232,S233⟩
  have h:=hK223
  refine Ob h fun x150 hx150 h=>Jf R (Jf2 f218.rdc hx150 U70 Z4 R R hn219 R) (Ob h fun y214 hy214 h=>Jk1 (κ:=K232) (E:=Ep.bool) 5 [] R R R R R R R R Z4 R R R R (f218.stp S233 R R) hy214 fun w235 K236 S237 f238=>⟨tv,?_⟩)
  have hn239:x24.length=y214.length:=hn219.trans (Jt2 hy214).2.2.2.symm
  refine Jo (Jz (Jp (Ja [2,2,2] R (Jc 3 R ?_))))
  have hw207:IntKind.wrap .i64 (v18+1)=v18+1:=wr1 hj207 (Jm2 hc207) hN207
  rw[hw207]
  have hc207:=Jm2 hc207
  cases h
  exact Jz1 fun a ha=>⟨k,_,Ja3 _,⟨K236,v18+1,(y214:(List Bool)),R,(S217.tr (S233.tr S237)).wk R,f238,hn239,by omega,by omega,hk221⟩,(ha.mm R)⟩
  rintro _ w210 ⟨K211,s12,rfl,S212,f213,hn214,rfl⟩
  have h:=hK208
  dsimp only[aft]at h
  refine Jp (Je [2,2] R (Jb 2 R (Ju (Ja2 (l:=[.tmp 4]) V126 (Jp2 R R) R ?_))))
  cases h
  exact⟨(fun b=>ren [(5,2)] (K211 b)),aa,ab,(by simp only[hn214]),((hE.stp (S3.tr (S15.tr (S20.tr (S26.tr (S33.tr (S68.tr (S78.tr (S93.tr (S99.tr (S106.tr (S175.tr (S179.tr (S189.tr (S203.tr S212)))))))))))))) R R).map (ren [(5,2)]) R R),(f213.map (ren [(5,2)]) R R)⟩
  refine JT fun h=>Jx R (Jq (Je [2] R (Jb 1 R ?_)))
  have hN135:(p1.length:Int)≤9223372036854775807:=f72.len_le
  refine Ob h fun q8 hq137 hK136=>?_
  clear h
  refine Jx1 (fun L w'=>∃κ',∃s9:(List Bool),L=[(6,.slice aa x24.length ab)]∧Stp [5] K105 w104 κ' w'∧Oc Ep.bool 4 κ' w' 5 aa ab s9∧x24.length=s9.length∧q8=Sum.inr s9) ?_ ?_
  refine Jv (Jy1 (fun k L w'=>∃κ' v15,∃s7:(List Bool),L=[(1,.slice a1 p1.length u1),(6,.slice aa x24.length ab),(7,vi (Int.tmod x21 2)),(15,vi v15)]∧Stp [5] K105 w104 κ' w'∧Oc Ep.bool 4 κ' w' 5 aa ab s7∧x24.length=s7.length∧0≤v15∧Int.toNat ((p1.length:Int)-v15)=k∧cntM (s_l7Win_b4 p1 x21) k v15 s7=some q8) ⟨_,_,⟨K105,0,(x24:(List Bool)),R,(Jx2 _ _).wk R,(f21.stp (S26.tr (S33.tr (S68.tr (S78.tr (S93.tr (S99.tr S106)))))) R R),R,(by decide),(by simp),hq137⟩,(KM R)⟩ ?_)
  rintro k _ w143 ⟨K144,v15,s7,rfl,S145,f146,hn147,hj135,hJ135,h⟩
  rcases k with _ | k
  have hk149:=h;obtain⟨o135,h⟩:=ex_eq (Sum.inr (Sum.inl s7):(List Bool)⊕(((List Bool))⊕((List Bool))))
  have hc135:decide (v15<(p1.length:Int))=false:=Jo2 (by omega)
  refine Jq (Je [2,2,2,2] R (Jn 2 R (Jf R (Je2 U70 R R) (Jb 1 R (Jw2 R hc135 (Jc1 (Jt (Jt ?_))))))))
  cases h
  have h:=hk149
  refine Jb1 ?_
  cases h
  exact Jw1 _ ⟨K144,(s7:(List Bool)),R,S145.wk R,f146,hn147,R⟩ (KM R)
  obtain⟨o135,h,hk149⟩:=BI h;unfold s_l7Win_b4 at h
  have hc135:decide (v15<(p1.length:Int))=true:=Jn2 (by omega)
  refine Jq (Je [2,2,2,2] R (Jn 2 R (Jf R (Je2 U70 R R) (Jb 1 R (Jv2 R hc135 (Js (Jp (Jq (Jv (Ja [2,2,2,2,2,1,2,2,2,2,2,1] R (Jn 4 R (Ob h fun x109 hx109 h=>Jf R (Jf2 f72 hx109 U70 Z4 R R R R) (Jl tv R R R R (Jc2 I4 R R (hvE ((f72.stp (S78.tr (S93.tr (S99.tr (S106.tr S145)))) R R).gBool hx109))) (Jn 1 R (Ob h fun p114 h hK151=>Ju1 [(7,2),(8,2),(9,2)] [(10,2),(11,1)] (fun L w'=>L=[(1,.slice a1 p1.length u1),(6,.slice aa x24.length ab),(7,vi (Int.tmod x21 2)),(15,vi v15),(105,.slice aa x24.length ab),(106,vi v15),(114,.bool p114)]∧∃κ',Stp [] K144 w143 κ' w') tv ?_ ?_)))))))))))))))
  revert h
  cases ht152:x109
  refine JF fun h=>Jn 3 R ?_
  cases h
  exact Jv1 _ tv ⟨R,_,(Jx2 _ _).wk R⟩ (KM R)
  refine JT fun h=>Jn 3 R ?_
  cases h
  exact Jv1 _ tv ⟨R,_,(Jx2 _ _).wk R⟩ (KM R)
  rintro _ w153 _ ⟨rfl,K154,S155⟩
  have h:=hK151
  refine Ob h fun x115 hx115 h=>Jf R (Jf2 f146.rdc hx115 U70 Z4 R R hn147 R) (Ob h fun y210 hy210 h=>Jk1 (κ:=K154) (E:=Ep.bool) 5 [] R R R R R R R R Z4 R R R R (f146.stp S155 R R) hy210 fun w157 K158 S159 f160=>⟨tv,?_⟩)
  have hn161:x24.length=y210.length:=hn147.trans (Jt2 hy210).2.2.2.symm
  refine Jo (Jz (Jp (Ja [2,2,2] R (Jc 3 R ?_))))
  have hw135:IntKind.wrap .i64 (v15+1)=v15+1:=wr1 hj135 (Jm2 hc135) hN135
  rw[hw135]
  have hc135:=Jm2 hc135
  cases h
  exact Jz1 fun a ha=>⟨k,_,Ja3 _,⟨K158,v15+1,(y210:(List Bool)),R,(S145.tr (S155.tr S159)).wk R,f160,hn161,by omega,by omega,hk149⟩,(ha.mm R)⟩
  rintro _ w138 ⟨K139,s9,rfl,S140,f141,hn142,rfl⟩
  have h:=hK136
  dsimp only[aft]at h
  refine Jp (Je [2,2] R (Jb 2 R (Ju (Jw (Ja2 (l:=[.tmp 4]) V126 (Jp2 R R) R ?_)))))
  cases h
  exact⟨(fun b=>ren [(5,2)] (K139 b)),aa,ab,(by simp only[hn142]),((hE.stp (S3.tr (S15.tr (S20.tr (S26.tr (S33.tr (S68.tr (S78.tr (S93.tr (S99.tr (S106.tr S140)))))))))) R R).map (ren [(5,2)]) R R),(f141.map (ren [(5,2)]) R R)⟩
  refine JT fun h=>Jx R (Je [2,2] R (Jb 2 R (Ju (Jw (Ja2 (l:=[.tmp 4]) V126 (Jp2 R R) R ?_)))))
  cases h
  exact⟨(fun b=>ren [(5,2)] (K19 b)),aa,ab,R,((hE.stp (S3.tr (S15.tr S20)) R R).map (ren [(5,2)]) R R),(f21.map (ren [(5,2)]) R R)⟩
theorem i_onlyBy_ok {w:World}{κ:Col}{ap ao an aq au ar}{p0:Parity}{a1 u1}{p1:(List Int)}(g0_0_0:Rd (Rp.int .i64) κ w 0 ap ao p0.Arena.Owner) (g0_0_1:Rd (Rp.sl (Rp.int .i64)) κ w 0 an aq p0.Arena.Next) (g0_1:Rd (Rp.int .i64) κ w 0 au ar p0.Prio) (g1:Rd (Rp.int .i64) κ w 0 a1 u1 p1){r:Parity}(h:i_onlyBy p0 p1=some r):Ret Tryz.prog 119 [.agg #[.slice ap p0.Arena.Owner.length ao,.slice an p0.Arena.Next.length aq,.slice au p0.Prio.length ar],.slice a1 p1.length u1] w (fun v w'=>∃(κ':Col) (ra0:Option Addr) (ru0:Nat) (ra1:Option Addr) (ru1:Nat) (ra2:Option Addr) (ru2:Nat),v= .agg #[.slice ra0 r.Arena.Owner.length ru0,.slice ra1 r.Arena.Next.length ru1,.slice ra2 r.Prio.length ru2]∧Ent κ w κ' w'∧Oc E6 2 κ' w' 2 ra0 ru0 r.Arena.Owner∧Oc (Ep.own E6 2) 22 κ' w' 3 ra1 ru1 r.Arena.Next∧Oc E6 2 κ' w' 4 ra2 ru2 r.Prio):=by
 unfold i_onlyBy at h
 refine Ret.enter F119 R N119 R ?_
 dsimp only[envOf]
 have hE:=Ent.refl κ w
 refine Je [1,1] R (Jf1 (κ:=κ) 2 R R R R R R R fun b2 w1 K2 S3 f4=>⟨tv,Jg1 (κ:=K2) 3 R R R R R X39 R fun b4 w5 K6 S7 f8=>⟨tv,Jd (Jq (Ob h fun x8 hx8 h=>Ob h fun x12 hx12 h=>Jx1 (fun L w'=>∃κ' am ai aj ah ak al,L=[(4,.pointer (some ⟨b4,0,none⟩))]∧Stp [3,4,6,7,8] K6 w5 κ' w'∧Oc E6 2 κ' w' 4 am ai x8.Owner∧Oc (Ep.own E6 2) 22 κ' w' 5 aj ah x8.Next∧Oc E6 2 κ' w' 6 ak al x12∧Bc κ' w' 3 b4 39 [.slice am x8.Owner.length ai,.slice aj x8.Next.length ah,.slice ak x12.length al]) ?_ ?_))⟩⟩)
 refine WC.rxt (κ:=K6) [2] none (by kernel_rfl) fun w17 S18=>Jq1 (fuel:=5) [(0,2),(2,2),(5,2),(1,0),(6,0)] (by kernel_rfl) (by kernel_rfl) R (Jf R (Jb2 U39 R Z37 R R) (Jn 1 R (Jf R (Jb2 U39 R Z22 R R) ?_)))
 have f19:=f4.stp (S7.tr S18) R R
 refine Jg R (Jd2 (cs:=[.slice ap p0.Arena.Owner.length ao,.slice an p0.Arena.Next.length aq]) I37 Z37 R R R (haC (f19.lds 0 2 R) R)) (Jg R (Jc2 I22 R R (hvC (f19.ld 2 R R) R)) (Jp1 (WA.fork2 (fuel:=4) 3 4 (by kernel_rfl) R ?_ ?_)))
 have S001:=(S3.tr (S7.tr S18))
 refine Jh R R R C141 (i_fixedBy_ok (κ:=fun b=>mp [] 0 (K6 b)) (p0:=p0.Arena) (Jl2 (g0_0_0.stp S001 R R) (mp [] 0) R R) (Jl2 (g0_0_1.stp S001 R R) (mp [] 0) R R) (Jl2 (g1.stp S001 R R) (mp [] 0) R R) hx8) ?_
 rintro _ w23 ⟨k24,ac,ab,ae,aa,rfl,e25,f26,f27⟩
 obtain⟨K28,S29,m30⟩:=Ji e25 4 R
 exact⟨(S29.cl R),Jp1 (Jq1 (fuel:=0) [(4,1),(7,1),(8,2),(9,1)] (by kernel_rfl) (by kernel_rfl) R (Jo1 (κ:=K28) (E:=E6) 8 R R R R R Y22 Tryzinfo2 R fun a9 u9 w34 K35 S36 f37=>⟨((S29.tr S36).cl R),Jm1 (κ:=K35) (E:=E6) 8 [] R R R R R R R R R Y22 Tryzinfo2 R R R R f37 (Sl.srcP (pu_int _) (g0_1.stp (S3.tr (S7.tr (S18.tr (S29.tr S36)))) R R)) sy_false hx12 R fun af ad w39 K40 S41 f42=>⟨((S29.tr (S36.tr S41)).cl R),Jf R (rn_build (parts:=[(0,.tmp 8),(1,.tmp 12)]) (cells:=[.slice ac x8.Owner.length ab,.slice ae x8.Next.length aa,.slice af x12.length ad]) R R (by kernel_rfl)) (Jj1 (κ:=K40) 3 (vc:=[.slice ac x8.Owner.length ab,.slice ae x8.Next.length aa,.slice af x12.length ad]) R R R R R R R Z39 R R (f8.stp (S18.tr (S29.tr (S36.tr S41))) R R) R fun w44 S45 f46=>⟨((S29.tr (S36.tr (S41.tr S45))).cl R),Jp1 (Jr1 [] (by kernel_rfl) (by kernel_rfl) R (Jo (Jw1 _ ⟨(fun b=>ren [(6,4),(7,5),(8,6)] (K40 b)),ac,ab,ae,aa,af,ad,R,(Jy2 ((S18.tr (S29.tr (S36.tr (S41.tr S45)))).wk R) [(6,4),(7,5),(8,6)] R),(((f26.mx (no_int _) m30 R (R:4+2=6)).stp (S36.tr (S41.tr S45)) R R).map (ren [(6,4),(7,5),(8,6)]) R R),(((f27.mx (no_own (no_int _) _) m30 R (R:4+3=7)).stp (S36.tr (S41.tr S45)) R R).map (ren [(6,4),(7,5),(8,6)]) R R),((f42.stp S45 R R).map (ren [(6,4),(7,5),(8,6)]) R R),(f46.map (ren [(6,4),(7,5),(8,6)]) R R)⟩ (KM R))))⟩)⟩⟩))⟩
 have S002:=(S3.tr (S7.tr S18))
 refine Jo1 (κ:=K6) (E:=E6) 4 R R R R R Y22 Tryzinfo2 R fun a9 u9 w50 K51 S52 f53=>⟨(S52.cl R),Jp1 (Jq1 (fuel:=0) [(3,1),(7,1),(8,2),(9,1)] (by kernel_rfl) (by kernel_rfl) R (Jh R R R C141 (i_fixedBy_ok (κ:=fun b=>mp [] 0 (K51 b)) (p0:=p0.Arena) (Jl2 (g0_0_0.stp (S002.tr S52) R R) (mp [] 0) R R) (Jl2 (g0_0_1.stp (S002.tr S52) R R) (mp [] 0) R R) (Jl2 (g1.stp (S002.tr S52) R R) (mp [] 0) R R) hx8) ?_))⟩
 rintro _ w57 ⟨k58,ac,ab,ae,aa,rfl,e59,f60,f61⟩
 obtain⟨K62,S63,m64⟩:=Ji e59 5 R
 exact⟨((S52.tr S63).cl R),Jm1 (κ:=K62) (E:=E6) 4 [] R R R R R R R R R Y22 Tryzinfo2 R R R R (f53.stp S63 R R) (Sl.srcP (pu_int _) (g0_1.stp (S3.tr (S7.tr (S18.tr (S52.tr S63)))) R R)) sy_false hx12 R fun af ad w70 K71 S72 f73=>⟨((S52.tr (S63.tr S72)).cl R),Jf R (rn_build (parts:=[(0,.tmp 8),(1,.tmp 12)]) (cells:=[.slice ac x8.Owner.length ab,.slice ae x8.Next.length aa,.slice af x12.length ad]) R R (by kernel_rfl)) (Jj1 (κ:=K71) 3 (vc:=[.slice ac x8.Owner.length ab,.slice ae x8.Next.length aa,.slice af x12.length ad]) R R R R R R R Z39 R R (f8.stp (S18.tr (S52.tr (S63.tr S72))) R R) R fun w75 S76 f77=>⟨((S52.tr (S63.tr (S72.tr S76))).cl R),Jp1 (Jr1 [] (by kernel_rfl) (by kernel_rfl) R (Jo (Jw1 _ ⟨(fun b=>ren [(7,4),(8,5),(4,6)] (K71 b)),ac,ab,ae,aa,af,ad,R,(Jy2 ((S18.tr (S52.tr (S63.tr (S72.tr S76)))).wk R) [(7,4),(8,5),(4,6)] R),(((f60.mx (no_int _) m64 R (R:5+2=7)).stp (S72.tr S76) R R).map (ren [(7,4),(8,5),(4,6)]) R R),(((f61.mx (no_own (no_int _) _) m64 R (R:5+3=8)).stp (S72.tr S76) R R).map (ren [(7,4),(8,5),(4,6)]) R R),((f73.stp S76 R R).map (ren [(7,4),(8,5),(4,6)]) R R),(f77.map (ren [(7,4),(8,5),(4,6)]) R R)⟩ (KM R))))⟩)⟩⟩
 rintro _ w9 ⟨K10,am,ai,aj,ah,ak,al,rfl,S11,f13,f14,f15,f16⟩
 refine Jp (Ju (Ja2 (l:=[.cell 4 39]) V119 (res_cellA R f16 I39 Z39 R R) R ?_))
 cases h
 exact⟨(fun b=>ren [(4,2),(5,3),(6,4)] (K10 b)),am,ai,aj,ah,ak,al,R,((hE.stp (S3.tr (S7.tr S11)) R R).map (ren [(4,2),(5,3),(6,4)]) R R),(f13.map (ren [(4,2),(5,3),(6,4)]) R R),(f14.map (ren [(4,2),(5,3),(6,4)]) R R),(f15.map (ren [(4,2),(5,3),(6,4)]) R R)⟩
theorem s_l4Set_ok {w:World}{κ:Col}{aa af ab ac ad ae}{p0:Parity}{a1 u1}{p1:(List Int)}(g0_0_0:Rd (Rp.int .i64) κ w 0 aa af p0.Arena.Owner) (g0_0_1:Rd (Rp.sl (Rp.int .i64)) κ w 0 ab ac p0.Arena.Next) (g0_1:Rd (Rp.int .i64) κ w 0 ad ae p0.Prio) (g1:Rd (Rp.int .i64) κ w 0 a1 u1 p1){r:Bool}(h:s_l4Set p0 p1=some r):Ret Tryz.prog 155 [.agg #[.slice aa p0.Arena.Owner.length af,.slice ab p0.Arena.Next.length ac,.slice ad p0.Prio.length ae],.slice a1 p1.length u1] w (fun v w'=>∃(κ':Col),v= .bool r∧Ent κ w κ' w'):=by
 unfold s_l4Set at h
 refine Ret.enter F155 R N155 R ?_
 dsimp only[envOf]
 have hE:=Ent.refl κ w
 refine Je [1,2] R (Jf1 (κ:=κ) 2 R R R R R R R fun b2 w1 K2 S3 f4=>⟨tv,Jb 1 R (Je [2,2,1,2,1,2] R (Jn 1 R (Jf R (Jb2 U39 R Z22 R R) (Jl tv R R R R (Jc2 I22 R R (hvE (f4.ld 2 R R))) (Jf R (Je2 U22 R R) (Ob h fun x9 hx9 h=>Jh R R R C123 (s_l1Set_ok (κ:=fun b=>mp [] 0 (K2 b)) (Jl2 (g1.stp S3 R R) (mp [] 0) R R) hx9) ?_))))))⟩)
 rintro _ w6 ⟨k7,rfl,e8⟩
 obtain⟨K9,S10,m11⟩:=Ji e8 3 R
 refine⟨tv,Jb 1 R (Ju (Ja2 (l:=[.tmp 4]) V155 (Jp2 R R) R ?_))⟩
 cases h
 exact⟨K9,R,(hE.stp (S3.tr S10) R R)⟩
theorem s_SetOk_ok {w:World}{κ:Col}{a0 u0}{p0:(List Int)}{p1:Int}(g0:Rd (Rp.int .i64) κ w 0 a0 u0 p0){r:Bool}(h:s_SetOk p0 p1=some r):Ret Tryz.prog 106 [.slice a0 p0.length u0,vi p1] w (fun v w'=>∃(κ':Col),v= .bool r∧Ent κ w κ' w'):=by
 unfold s_SetOk at h
 refine Ret.enter F106 R N106 R ?_
 dsimp only[envOf]
 have hE:=Ent.refl κ w
 refine Je [2] R (Jb 1 R (Je [2,1,2,2,2,1,2,2] R (Jn 1 R (Ob h fun x6 hx6 h=>Jh R R R C75 (s_l1In_ok (κ:=fun b=>mp [] 0 (κ b)) hx6) ?_))))
 rintro _ w1 ⟨k2,rfl,e3⟩
 obtain⟨K4,S5,m6⟩:=Ji e3 2 R
 refine⟨tv,Jn 1 R (Ob h fun p11 h hK8=>Ju1 [(3,2),(4,2),(5,1),(6,2)] [(7,2)] (fun L w'=>L=[(4,.bool false),(11,.bool p11)]∧∃κ',Stp [] K4 w1 κ' w') tv ?_ ?_)⟩
 revert h
 cases ht9:x6
 refine JF fun h=>Jn 2 R (Jd1 R R R R (Jn 1 R ?_))
 cases h
 exact Jv1 _ tv ⟨R,_,(Jx2 _ _).wk R⟩ (KM R)
 refine JT fun h=>Jn 2 R (Ob h fun x10 hx10 h=>Jh R R R C123 (s_l1Set_ok (κ:=fun b=>mp [] 0 (K4 b)) (Jl2 (g0.stp S5 R R) (mp [] 0) R R) hx10) ?_)
 rintro _ w11 ⟨k12,rfl,e13⟩
 obtain⟨K14,S15,m16⟩:=Ji e13 4 R
 refine⟨tv,Jn 1 R ?_⟩
 cases h
 exact Jv1 _ tv ⟨R,_,S15.wk R⟩ (KM R)
 rintro _ w18 _ ⟨rfl,K19,S20⟩
 have h:=hK8
 refine Jb 1 R (Ju (Ja2 (l:=[.tmp 4]) V106 (Jp2 R R) R ?_))
 cases h
 exact⟨K19,R,(hE.stp (S5.tr S20) R R)⟩
end Go.Proofs.YtmiilifclnanlaaGreat
