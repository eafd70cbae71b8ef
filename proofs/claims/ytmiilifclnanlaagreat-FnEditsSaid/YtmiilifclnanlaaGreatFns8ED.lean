/- The walks, part 8. By program. -/
import Derived.Test.YtmiilifclnanlaaGreatFns6ED
import Derived.Test.YtmiilifclnanlaaGreatFns7ED
set_option linter.unusedVariables false
set_option linter.unusedSimpArgs false
namespace Go.Proofs.YtmiilifclnanlaaGreat
open Go Go.Wk Go.Proofs
set_option maxRecDepth 100000
set_option maxHeartbeats 1000000
theorem s_l1Num_ok {w:World}{κ:Col}{aa ab}{p0:l1Cur}{p1:Int}{b0}(g0_0:Rd (Rp.int .u8) κ w 0 aa ab p0.b) (gb0:Bc κ w 2 b0 107 [.slice aa p0.b.length ab,vi p0.i,vi p0.h]){r:Int×Int×Int}(h:s_l1Num p0 p1=some r):Ret Tryz.prog 108 [.pointer (some ⟨b0,0,none⟩),vi p1] w (fun v w'=>∃(κ':Col),v=vi r.1∧Ent κ w κ' w'∧Bc κ' w' 2 b0 107 [.slice aa p0.b.length ab,vi r.2.1,vi r.2.2]):=by
 unfold s_l1Num at h
 refine Ret.enter F108 R N108 R ?_
 dsimp only[envOf]
 have hE:=Ent.refl κ w
 refine Je [2] R (Jb 1 R (Jq (Je [2,1] R (Jn 1 R (Ob h fun x6 hx6 h=>Jh R R R C71 (s_l1Once_ok (κ:=fun b=>mp [(2,2)] 0 (κ b)) (p0:=p0) (Jl2 g0_0 (mp [(2,2)] 0) R R) (gb0.map (mp [(2,2)] 0) R R) hx6) ?_)))))
 rintro _ w1 ⟨k2,rfl,e3,f4⟩
 obtain⟨K5,S6,m7⟩:=Ji e3 3 R
 refine⟨tv,?_⟩
 have f9:=f4.mx m7 R (R:3+2=5)
 refine Jd ?_
 revert h
 cases ht10:x6.1
 refine JF fun h=>Jy R (Js (Jp (Jq (Je [2,1] R (Jn 1 R (Ob h fun x18 hx18 h=>?_))))))
 have f38:=g0_0.stp S6 R R
 refine Jh R R R C71 (s_l1Once_ok (κ:=fun b=>mp [(5,2)] 0 (K5 b)) (p0:=(⟨p0.b,x6.2.1,x6.2.2⟩:l1Cur)) (Jl2 f38 (mp [(5,2)] 0) R R) (f9.map (mp [(5,2)] 0) R R) hx18) ?_
 rintro _ w39 ⟨k40,rfl,e41,f42⟩
 obtain⟨K43,S44,m45⟩:=Ji e41 6 R
 refine⟨tv,?_⟩
 have f47:=f42.mx m45 R (R:6+2=8)
 refine Jd ?_
 revert h
 cases ht48:x18.1
 refine JF fun h=>Jy R (Js (Jp (Je [2,2,2,1,2] R (Jn 3 R (Ob h fun x27 hx27 h=>Jh R R R C69 (s_l1Below_ok (κ:=fun b=>mp [(8,2)] 0 (K43 b)) (p0:=(⟨p0.b,x18.2.1,x18.2.2⟩:l1Cur)) (Jl2 (f38.stp S44 R R) (mp [(8,2)] 0) R R) (f47.map (mp [(8,2)] 0) R R) hx27) ?_)))))
 rintro _ w69 ⟨k70,rfl,e71,f72⟩
 obtain⟨K73,S74,m75⟩:=Ji e71 9 R
 refine⟨tv,Jb 1 R (Ju (Ja2 (l:=[.tmp 4]) V108 (Jp2 R R) R ?_))⟩
 cases h
 exact⟨(fun b=>ren [(11,2)] (K73 b)),R,((hE.stp (S6.tr (S44.tr S74)) R R).map (ren [(11,2)]) R R),((f72.mx m75 R (R:9+2=11)).map (ren [(11,2)]) R R)⟩
 refine JT fun h=>Jx R (Je [2,2,1,2,1,2] R (Jn 2 R (Ob h fun x21 hx21 h=>Jh R R R C139 (s_l1Min_ok (κ:=fun b=>mp [] 0 (K43 b)) hx21) ?_)))
 rintro _ w49 ⟨k50,rfl,e51⟩
 obtain⟨K52,S53,m54⟩:=Ji e51 9 R
 refine⟨tv,Jn 1 R (Ob h fun x23 hx23 h=>Jh R R R C69 (s_l1Below_ok (κ:=fun b=>mp [(8,2)] 0 (K52 b)) (p0:=(⟨p0.b,x18.2.1,x18.2.2⟩:l1Cur)) (Jl2 (f38.stp (S44.tr S53) R R) (mp [(8,2)] 0) R R) ((f47.stp S53 R R).map (mp [(8,2)] 0) R R) hx23) ?_)⟩
 rintro _ w58 ⟨k59,rfl,e60,f61⟩
 obtain⟨K62,S63,m64⟩:=Ji e60 11 R
 refine⟨tv,Jb 1 R (Ju (Jw (Ja2 (l:=[.tmp 4]) V108 (Jp2 R R) R ?_)))⟩
 cases h
 exact⟨(fun b=>ren [(13,2)] (K62 b)),R,((hE.stp (S6.tr (S44.tr (S53.tr S63))) R R).map (ren [(13,2)]) R R),((f61.mx m64 R (R:11+2=13)).map (ren [(13,2)]) R R)⟩
 refine JT fun h=>Jx R (Je [2,2,2,2,1,1,2,1,2,1,2] R (Jn 4 R (Ob h fun x11 hx11 h=>?_)))
 have f11:=g0_0.stp S6 R R
 refine Jh R R R C138 (s_l1Odd_ok (κ:=fun b=>mp [(5,2)] 0 (K5 b)) (p0:=(⟨p0.b,x6.2.1,x6.2.2⟩:l1Cur)) (Jl2 f11 (mp [(5,2)] 0) R R) (f9.map (mp [(5,2)] 0) R R) hx11) ?_
 rintro _ w12 ⟨k13,rfl,e14,f15⟩
 obtain⟨K16,S17,m18⟩:=Ji e14 6 R
 refine⟨tv,Jn1 (κ:=K16) (E:=E6) 9 [] (parts:=[(0,.const (vi (-1))),(1,.tmp 7),(2,.tmp 9),(3,.tmp 11)]) (cells:=[vi (-1),vi p1,vi (IntKind.i64.wrap (p1+1)),vi x11.1]) (xs:=([(-1),p1,(IntKind.i64.wrap (p1+1)),x11.1]:List Int)) R R R R R R Y22 Tryzinfo2 R R R R R R R R R R ⟨[vi (-1)],[vi p1,vi (IntKind.i64.wrap (p1+1)),vi x11.1],Zl K16 w12 [],Zl K16 w12 [],R,Zl.sp (l1:=[]) (l2:=[]) R,Zl.sr (l1:=[]) (l2:=[]),R,⟨[vi p1],[vi (IntKind.i64.wrap (p1+1)),vi x11.1],Zl K16 w12 [],Zl K16 w12 [],R,Zl.sp (l1:=[]) (l2:=[]) R,Zl.sr (l1:=[]) (l2:=[]),R,⟨[vi (IntKind.i64.wrap (p1+1))],[vi x11.1],Zl K16 w12 [],Zl K16 w12 [],R,Zl.sp (l1:=[]) (l2:=[]) R,Zl.sr (l1:=[]) (l2:=[]),R,⟨[vi x11.1],[],Zl K16 w12 [],Zl K16 w12 [],R,Zl.sp (l1:=[]) (l2:=[]) R,Zl.sr (l1:=[]) (l2:=[]),R,R⟩⟩⟩⟩ fun ac ad w21 K22 S23 f24=>⟨tv,Jn 1 R (Ob h fun x14 hx14 h=>Jh R R R C69 (s_l1Below_ok (κ:=fun b=>mp [(8,2)] 0 (K22 b)) (p0:=(⟨p0.b,x11.2.1,x11.2.2⟩:l1Cur)) (Jl2 (f11.stp (S17.tr S23) R R) (mp [(8,2)] 0) R R) (((f15.mx m18 R (R:6+2=8)).stp S23 R R).map (mp [(8,2)] 0) R R) hx14) ?_)⟩⟩
 rintro _ w27 ⟨k28,rfl,e29,f30⟩
 obtain⟨K31,S32,m33⟩:=Ji e29 10 R
 refine⟨tv,Ob h fun x15 hx15 h=>Jf R (Jf2 f24.rdc hx15 U22 Z2 R R R R) (Jl tv R R R R (Jc2 I2 R R (hvE ((f24.stp S32 R R).rdc.gInt hx15))) (Jb 1 R (Ju (Jw (Ja2 (l:=[.tmp 4]) V108 (Jp2 R R) R ?_)))))⟩
 cases h
 exact⟨(fun b=>ren [(12,2)] (K31 b)),R,((hE.stp (S6.tr (S17.tr (S23.tr S32))) R R).map (ren [(12,2)]) R R),((f30.mx m33 R (R:10+2=12)).map (ren [(12,2)]) R R)⟩
theorem s_ArenaOk_ok {w:World}{κ:Col}{ac ad ab aa}{p0:Arena}(g0_0:Rd (Rp.int .i64) κ w 0 ac ad p0.Owner) (g0_1:Rd (Rp.sl (Rp.int .i64)) κ w 0 ab aa p0.Next){r:Bool}(h:s_ArenaOk p0=some r):Ret Tryz.prog 95 [.agg #[.slice ac p0.Owner.length ad,.slice ab p0.Next.length aa]] w (fun v w'=>∃(κ':Col),v= .bool r∧Ent κ w κ' w'):=by
 unfold s_ArenaOk at h
 refine Ret.enter F95 R N95 R ?_
 dsimp only[envOf]
 have hE:=Ent.refl κ w
 refine Je [1,2] R (Jf1 (κ:=κ) 2 R R R R R R R fun b1 w1 K2 S3 f4=>⟨tv,Jb 1 R (Je [2,1,2,2] R (Jf R (Jb2 U37 R Z22 R R) (Jl tv R R R R (Jc2 I22 R R (hvE (f4.ld 0 R R))) (Jf R (Je2 U22 R R) (Jb 1 R (Jq (Je [2,1,2,2,2,1,2,2,1,2,2,2] R (Jn 1 R (Ob h fun x9 hx9 h=>Jh R R R C75 (s_l1In_ok (κ:=fun b=>mp [] 0 (K2 b)) hx9) ?_)))))))))⟩)
 rintro _ w5 ⟨k6,rfl,e7⟩
 obtain⟨K8,S9,m10⟩:=Ji e7 3 R
 refine⟨tv,Jn 2 R (Ob h fun p19 h hK12=>Ju1 [(4,2),(5,1),(6,2),(7,2),(8,1),(9,2),(10,2),(11,2)] [] (fun L w'=>L=[(1,.pointer (some ⟨b1,0,none⟩)),(3,vi (p0.Owner.length:Int)),(19,.bool p19)]∧∃κ',Stp [] K8 w5 κ' w') tv ?_ ?_)⟩
 revert h
 cases ht13:(!x9)
 refine JF fun h=>Jf R (Jb2 U37 R Z23 R R) ?_
 have f14:=f4.stp S9 R R
 refine Jl tv R R R R (Jc2 I23 R R (hvE (f14.ld 1 R R))) (Jf R (Je2 U23 R R) (Jf R (Jb2 U37 R Z22 R R) (Jl tv R R R R (Jc2 I22 R R (hvE (f14.ld 0 R R))) (Jf R (Je2 U22 R R) (Jn 2 R ?_)))))
 cases h
 exact Jv1 _ tv ⟨R,_,(Jx2 _ _).wk R⟩ (KM R)
 refine JT fun h=>Jn 1 R (Jd1 R R R R (Jn 2 R (Jd1 R R R R (Jn 3 R ?_))))
 cases h
 exact Jv1 _ tv ⟨R,_,(Jx2 _ _).wk R⟩ (KM R)
 rintro _ w15 _ ⟨rfl,K16,S17⟩
 have h:=hK12
 refine Jd ?_
 revert h
 cases ht18:p19
 refine JF fun h=>Jy R (Js (Jp (Jq (Je [2] R (Jb 1 R ?_)))))
 have hN20:(p0.Owner.length:Int)≤9223372036854775807:=g0_0.len_le
 refine Ob h fun q2 hq22 hK21=>?_
 clear h
 refine Jx1 (fun L w'=>∃κ',L=[]∧Stp [] K16 w15 κ' w'∧q2=Sum.inr ()) ?_ ?_
 refine Jv (Jy1 (fun k L w'=>∃κ' v4,L=[(1,.pointer (some ⟨b1,0,none⟩)),(3,vi (p0.Owner.length:Int)),(4,vi v4)]∧Stp [] K16 w15 κ' w'∧0≤v4∧Int.toNat ((p0.Owner.length:Int)-v4)=k∧cntM (s_ArenaOk_b0 p0) k v4 ()=some q2) ⟨_,_,⟨K16,0,R,(Jx2 _ _).wk R,(by decide),(by simp),hq22⟩,(KM R)⟩ ?_)
 rintro k _ w26 ⟨K27,v4,rfl,S28,hj20,hJ20,h⟩
 rcases k with _ | k
 have hk29:=h;obtain⟨o20,h⟩:=ex_eq (Sum.inr (Sum.inl ()):Bool⊕((Unit)⊕(Unit)))
 have hc20:decide (v4<(p0.Owner.length:Int))=false:=Jo2 (by omega)
 refine Jq (Je [2,2,1,2,2] R (Jn 1 R (Jf R (Jb2 U37 R Z22 R R) (Jl tv R R R R (Jc2 I22 R R (hvE ((f4.stp (S9.tr (S17.tr S28)) R R).ld 0 R R))) (Jf R (Je2 U22 R R) (Jb 1 R (Jw2 R hc20 (Jc1 (Jt (Jt ?_))))))))))
 cases h
 have h:=hk29
 refine Jb1 ?_
 cases h
 exact Jw1 _ ⟨K27,R,S28.wk R,R⟩ KN
 obtain⟨o20,h,hk29⟩:=BI h;unfold s_ArenaOk_b0 at h
 have hc20:decide (v4<(p0.Owner.length:Int))=true:=Jn2 (by omega)
 refine Jq (Je [2,2,1,2,2] R (Jn 1 R (Jf R (Jb2 U37 R Z22 R R) ?_)))
 have f31:=f4.stp (S9.tr (S17.tr S28)) R R
 refine Jl tv R R R R (Jc2 I22 R R (hvE (f31.ld 0 R R))) (Jf R (Je2 U22 R R) (Jb 1 R (Jv2 R hc20 (Js (Jp (Jq (Jv (Je [2,1,2,2,1,1,2,2,2,1,2,2,1,2,2,2,2,2,1,2,2,1,2,2,2,2,2,1,2,2,1,2,1,2,2] R (Jf R (Jb2 U37 R Z22 R R) (Jl tv R R R R (Jc2 I22 R R (hvE (f31.ld 0 R R))) (Jn 1 R (Ob h fun x30 hx30 h=>Jf R (Jf2 g0_0 hx30 U22 Z2 R R R R) (Jl tv R R R R (Jc2 I2 R R (hvE ((g0_0.stp (S3.tr (S9.tr (S17.tr S28))) R R).gInt hx30))) (Ob h fun x32 hx32 h=>Jh R R R C75 (s_l1In_ok (κ:=fun b=>mp [] 0 (K27 b)) hx32) ?_))))))))))))))
 rintro _ w33 ⟨k34,rfl,e35⟩
 obtain⟨K36,S37,m38⟩:=Ji e35 5 R
 refine⟨tv,Jn 2 R (Ob h fun p42 h hK40=>Ju1 [(8,2),(9,1),(10,2),(11,2),(12,1),(13,2),(14,2),(15,2)] [(16,2),(17,2),(18,1),(19,2),(20,2),(21,1),(22,2),(23,2),(24,2),(25,2),(26,2),(27,1),(28,2),(29,2),(30,1),(31,2),(32,1),(33,2),(34,2)] (fun L w'=>L=[(1,.pointer (some ⟨b1,0,none⟩)),(3,vi (p0.Owner.length:Int)),(4,vi v4),(42,.bool p42)]∧∃κ',Stp [] K36 w33 κ' w') tv ?_ ?_)⟩
 revert h
 cases ht41:(!x32)
 refine JF fun h=>Jf R (Jb2 U37 R Z23 R R) (Jl tv R R R R (Jc2 I23 R R (hvE ((f31.stp S37 R R).ld 1 R R))) (Jn 1 R (Ob h fun x38 hx38 h=>Jf R (Jf2 g0_1 hx38 U23 Z22 R R R R) ?_)))
 obtain⟨ax38,ux38,f44,hl45⟩:=(g0_1.stp (S3.tr (S9.tr (S17.tr (S28.tr S37)))) R R).gSl hx38
 refine Jl tv R R R R (Jc2 I22 R R (hvE hl45)) (Jf R (Je2 U22 R R) (Jn 2 R ?_))
 cases h
 exact Jv1 _ tv ⟨R,_,(Jx2 _ _).wk R⟩ (KM R)
 refine JT fun h=>Jn 1 R (Jd1 R R R R (Jn 2 R (Jd1 R R R R (Jn 3 R ?_))))
 cases h
 exact Jv1 _ tv ⟨R,_,(Jx2 _ _).wk R⟩ (KM R)
 rintro _ w46 _ ⟨rfl,K47,S48⟩
 have h:=hK40
 refine Jn 1 R (Ob h fun p51 h hK49=>Ju1 [(17,2),(18,1),(19,2),(20,2),(21,1),(22,2),(23,2),(24,2)] [(25,2),(26,2),(27,1),(28,2),(29,2),(30,1),(31,2),(32,1),(33,2),(34,2)] (fun L w'=>L=[(1,.pointer (some ⟨b1,0,none⟩)),(3,vi (p0.Owner.length:Int)),(4,vi v4),(51,.bool p51)]∧∃κ',Stp [] K47 w46 κ' w') tv ?_ ?_)
 revert h
 cases ht50:p42
 refine JF fun h=>Jf R (Jb2 U37 R Z23 R R) (Jl tv R R R R (Jc2 I23 R R (hvE ((f31.stp (S37.tr S48) R R).ld 1 R R))) (Jn 1 R (Ob h fun x47 hx47 h=>Jf R (Jf2 g0_1 hx47 U23 Z22 R R R R) ?_)))
 obtain⟨ax47,ux47,f53,hl54⟩:=(g0_1.stp (S3.tr (S9.tr (S17.tr (S28.tr (S37.tr S48))))) R R).gSl hx47
 refine Jl tv R R R R (Jc2 I22 R R (hvE hl54)) (Jf R (Je2 U22 R R) (Jn 2 R ?_))
 cases h
 exact Jv1 _ tv ⟨R,_,(Jx2 _ _).wk R⟩ (KM R)
 refine JT fun h=>Jn 1 R (Jd1 R R R R (Jn 2 R (Jd1 R R R R (Jn 3 R ?_))))
 cases h
 exact Jv1 _ tv ⟨R,_,(Jx2 _ _).wk R⟩ (KM R)
 rintro _ w55 _ ⟨rfl,K56,S57⟩
 have h:=hK49
 refine Jn 1 R (Ob h fun p61 h hK58=>Ju1 [(26,2),(27,1),(28,2),(29,2),(30,1),(31,2),(32,1),(33,2),(34,2)] [] (fun L w'=>L=[(1,.pointer (some ⟨b1,0,none⟩)),(3,vi (p0.Owner.length:Int)),(4,vi v4),(61,.bool p61)]∧∃κ',Stp [] K56 w55 κ' w') tv ?_ ?_)
 revert h
 cases ht59:p51
 refine JF fun h=>Jf R (Jb2 U37 R Z23 R R) (Jl tv R R R R (Jc2 I23 R R (hvE ((f31.stp (S37.tr (S48.tr S57)) R R).ld 1 R R))) (Jn 1 R (Ob h fun x56 hx56 h=>Jf R (Jf2 g0_1 hx56 U23 Z22 R R R R) ?_)))
 obtain⟨ax56,ux56,f62,hl63⟩:=(g0_1.stp (S3.tr (S9.tr (S17.tr (S28.tr (S37.tr (S48.tr S57)))))) R R).gSl hx56
 refine Jl tv R R R R (Jc2 I22 R R (hvE hl63)) (Jn 1 R (Ob h fun x59 hx59 h=>Jh R R R C123 (s_l1Set_ok (κ:=fun b=>mp [] 0 (K56 b)) (Jl2 f62 (mp [] 0) R R) hx59) ?_))
 rintro _ w64 ⟨k65,rfl,e66⟩
 obtain⟨K67,S68,m69⟩:=Ji e66 7 R
 refine⟨tv,Jn 2 R ?_⟩
 cases h
 exact Jv1 _ tv ⟨R,_,S68.wk R⟩ (KM R)
 refine JT fun h=>Jn 1 R (Jd1 R R R R (Jn 2 R (Jd1 R R R R (Jn 1 R (Jd1 R R R R (Jn 2 R ?_))))))
 cases h
 exact Jv1 _ tv ⟨R,_,(Jx2 _ _).wk R⟩ (KM R)
 rintro _ w71 _ ⟨rfl,K72,S73⟩
 have h:=hK58
 refine Jd ?_
 revert h
 cases ht74:p61
 refine JF fun h=>Jy R (Js (Jz (Jp (Ja [2,2,2] R (Jc 3 R ?_)))))
 have hw20:IntKind.wrap .i64 (v4+1)=v4+1:=wr1 hj20 (Jm2 hc20) hN20
 rw[hw20]
 have hc20:=Jm2 hc20
 cases h
 exact Jz1 fun a ha=>⟨k,_,Ja3 _,⟨K72,v4+1,R,(S28.tr (S37.tr (S48.tr (S57.tr S73)))).wk R,by omega,by omega,hk29⟩,(ha.mm R)⟩
 refine JT fun h=>Jx R (Je [2] R (Jb 1 R (Ju (Ja1 (Jw (Jw ?_))))))
 cases h
 obtain rfl:=Option.some.inj hk29
 have h:=hK21
 dsimp only[aft]at h
 refine Ja1 (Jq2 (Jw (Ja2 (l:=[.tmp 2]) V95 (Jp2 R R) R ?_)))
 cases h
 exact⟨K72,R,(hE.stp (S3.tr (S9.tr (S17.tr (S28.tr (S37.tr (S48.tr (S57.tr S73))))))) R R)⟩
 rintro _ w23 ⟨K24,rfl,S25,rfl⟩
 have h:=hK21
 dsimp only[aft]at h
 refine Jp (Je [2] R (Jb 1 R (Ju (Ja2 (l:=[.tmp 2]) V95 (Jp2 R R) R ?_))))
 cases h
 exact⟨K24,R,(hE.stp (S3.tr (S9.tr (S17.tr S25))) R R)⟩
 refine JT fun h=>Jx R (Je [2] R (Jb 1 R (Ju (Jw (Ja2 (l:=[.tmp 2]) V95 (Jp2 R R) R ?_)))))
 cases h
 exact⟨K16,R,(hE.stp (S3.tr (S9.tr S17)) R R)⟩
theorem s_l7Win_ok (n:Nat):∀{w:World}{κ:Col}{ah ad am ai aj ac ak af ae al}{p0:l7Game}{a1 u1}{p1:(List Bool)}(g0_0:Rd (Rp.int .i64) κ w 0 ah ad p0.owner) (g0_1:Rd (Rp.int .i64) κ w 0 am ai p0.prio) (g0_2:Rd (Rp.sl (Rp.int .i64)) κ w 0 aj ac p0.next) (g0_3:Rd (Rp.sl (Rp.int .i64)) κ w 0 ak af p0.prev) (g0_4:Rd (Rp.int .i64) κ w 0 ae al p0.pick) (g1:Rd Rp.bool κ w 0 a1 u1 p1){r:(List Bool)}(h:s_l7Win n p0 p1=some r),Ret Tryz.prog 126 [.agg #[.slice ah p0.owner.length ad,.slice am p0.prio.length ai,.slice aj p0.next.length ac,.slice ak p0.prev.length af,.slice ae p0.pick.length al],.slice a1 p1.length u1] w (fun v w'=>∃(κ':Col) (ra0:Option Addr) (ru0:Nat),v= .slice ra0 r.length ru0∧Ent κ w κ' w'∧Oc Ep.bool 4 κ' w' 2 ra0 ru0 r):=by
 induction n with
 | zero=>
  intro w κ ah ad am ai aj ac ak af ae al p0 a1 u1 p1 g0_0 g0_1 g0_2 g0_3 g0_4 g1 r h
  cases h
 | succ n ih=>
  intro w κ ah ad am ai aj ac ak af ae al p0 a1 u1 p1 g0_0 g0_1 g0_2 g0_3 g0_4 g1 r h
  have h:s_l7Win_s (s_l7Win n) p0 p1=some r:=h
  unfold s_l7Win_s at h
  refine Ret.enter F126 R N126 R ?_
  dsimp only[envOf]
  have hE:=Ent.refl κ w
  refine Je [1,2] R (Jf1 (κ:=κ) 2 R R R R R R R fun b2 w1 K2 S3 f4=>⟨tv,Jb 1 R (Je [1,2,1,2] R (Jl tv R R R R (Jd2 (cs:=[.slice ah p0.owner.length ad,.slice am p0.prio.length ai,.slice aj p0.next.length ac,.slice ak p0.prev.length af,.slice ae p0.pick.length al]) I111 Z111 R R R (haE f4.cells)) (Jn 1 R (Ob h fun x21 hx21 h=>?_))))⟩)
  have f5:=g0_0.stp S3 R R
  have f6:=g0_1.stp S3 R R
  have f7:=g0_2.stp S3 R R
  have f8:=g0_3.stp S3 R R
  have f9:=g0_4.stp S3 R R
  have f10:=g1.stp S3 R R
  refine Jh R R R C149 (s_l7Top_ok (κ:=fun b=>mp [] 0 (K2 b)) (p0:=p0) (Jl2 f5 (mp [] 0) R R) (Jl2 f6 (mp [] 0) R R) (Jl2 f7 (mp [] 0) R R) (Jl2 f8 (mp [] 0) R R) (Jl2 f9 (mp [] 0) R R) (Jl2 f10 (mp [] 0) R R) hx21) ?_
  rintro _ w11 ⟨k12,rfl,e13⟩
  obtain⟨K14,S15,m16⟩:=Ji e13 3 R
  refine⟨tv,Jb 1 R (Je [2,2,1,2] R (Jn 1 R (Jf R (Je2 U70 R R) (Ob h fun x24 hx24 h=>Jl1 (κ:=K14) (E:=Ep.bool) (z:=(false:Bool)) 5 R R R R R R R Y70 Tryzinfo4 R R R R R (fun _ _ _=>R) (Ju2 hx24) fun ab aa w18 K19 S20 f21=>⟨tv,Jb 1 R (Jq (Je [2,2] R (Jb 2 R ?_)))⟩))))⟩
  revert h
  cases ht22:decide (x21<0)
  refine JF fun h=>Jy R (Js (Jp (Je [2,2,2] R (Jn 1 R (Jf R (rn_rem R R R (by decide)) (Jb 1 R (Je [2,2,1,2] R (Jn 1 R (Jf R (Je2 U70 R R) (Ob h fun x32 hx32 h=>Jl1 (κ:=K19) (E:=Ep.bool) (z:=(false:Bool)) 6 R R R R R R R Y70 Tryzinfo4 R R R R R (fun _ _ _=>R) (Ju2 hx32) fun aq ap w24 K25 S26 f27=>⟨tv,Jb 1 R (Jq (Je [2] R (Jb 1 R ?_)))⟩))))))))))
  have hN28:(p1.length:Int)≤9223372036854775807:=f10.len_le
  refine Ob h fun q2 hq30 hK29=>?_
  clear h
  refine Jx1 (fun L w'=>∃κ',∃s3:(List Bool),L=[(1,.slice a1 p1.length u1),(2,.pointer (some ⟨b2,0,none⟩)),(6,.slice ab x24.length aa),(7,vi (Int.tmod x21 2)),(8,.slice aq x32.length ap)]∧Stp [6] K25 w24 κ' w'∧Oc Ep.bool 4 κ' w' 6 aq ap s3∧x32.length=s3.length∧q2=Sum.inr s3) ?_ ?_
  refine Jv (Jy1 (fun k L w'=>∃κ' v9,∃s1:(List Bool),L=[(1,.slice a1 p1.length u1),(2,.pointer (some ⟨b2,0,none⟩)),(5,vi x21),(6,.slice ab x24.length aa),(7,vi (Int.tmod x21 2)),(8,.slice aq x32.length ap),(9,vi v9)]∧Stp [6] K25 w24 κ' w'∧Oc Ep.bool 4 κ' w' 6 aq ap s1∧x32.length=s1.length∧0≤v9∧Int.toNat ((p1.length:Int)-v9)=k∧cntM (s_l7Win_b0 p0 p1 x21) k v9 s1=some q2) ⟨_,_,⟨K25,0,(x32:(List Bool)),R,(Jx2 _ _).wk R,f27,R,(by decide),(by simp),hq30⟩,(KM R)⟩ ?_)
  rintro k _ w36 ⟨K37,v9,s1,rfl,S38,f39,hn40,hj28,hJ28,h⟩
  rcases k with _ | k
  have hk41:=h;obtain⟨o28,h⟩:=ex_eq (Sum.inr (Sum.inl s1):(List Bool)⊕(((List Bool))⊕((List Bool))))
  have hc28:decide (v9<(p1.length:Int))=false:=Jo2 (by omega)
  refine Jq (Je [2,2,2,2] R (Jn 2 R (Jf R (Je2 U70 R R) (Jb 1 R (Jw2 R hc28 (Jc1 (Jt (Jt ?_))))))))
  cases h
  have h:=hk41
  refine Jb1 ?_
  cases h
  exact Jw1 _ ⟨K37,(s1:(List Bool)),R,S38.wk R,f39,hn40,R⟩ (KM R)
  obtain⟨o28,h,hk41⟩:=BI h;unfold s_l7Win_b0 at h
  have hc28:decide (v9<(p1.length:Int))=true:=Jn2 (by omega)
  refine Jq (Je [2,2,2,2] R (Jn 2 R (Jf R (Je2 U70 R R) (Jb 1 R (Jv2 R hc28 (Js (Jp (Jq (Jv (Ja [2,2,2,2,2,1,2,2,1,2,2,1,2,2,2,2,1] R (Jn 4 R (Ob h fun x43 hx43 h=>Jf R (Jf2 f10 hx43 U70 Z4 R R R R) (Jl tv R R R R (Jc2 I4 R R (hvE ((f10.stp (S15.tr (S20.tr (S26.tr S38))) R R).gBool hx43))) (Jn 1 R (Ob h fun p53 h hK43=>Ju1 [(7,2),(8,1),(9,2),(10,2),(11,1),(12,2),(13,2),(14,2)] [(15,2),(16,1)] (fun L w'=>L=[(1,.slice a1 p1.length u1),(2,.pointer (some ⟨b2,0,none⟩)),(5,vi x21),(6,.slice ab x24.length aa),(7,vi (Int.tmod x21 2)),(8,.slice aq x32.length ap),(9,vi v9),(39,.slice aq x32.length ap),(40,vi v9),(53,.bool p53)]∧∃κ',Stp [] K37 w36 κ' w') tv ?_ ?_)))))))))))))))
  revert h
  cases ht44:x43
  refine JF fun h=>Jn 1 R (Jd1 R R R R (Jn 2 R (Jd1 R R R R (Jn 3 R ?_))))
  cases h
  exact Jv1 _ tv ⟨R,_,(Jx2 _ _).wk R⟩ (KM R)
  have S001:=(S15.tr (S20.tr (S26.tr S38)))
  refine JT fun h=>Jf R (Jb2 U111 R Z22 R R) (Jl tv R R R R (Jc2 I22 R R (hvE ((f4.stp S001 R R).ld 1 R R))) (Jn 1 R (Ob h fun x49 hx49 h=>Jf R (Jf2 f6 hx49 U22 Z2 R R R R) (Jl tv R R R R (Jc2 I2 R R (hvE ((f6.stp S001 R R).gInt hx49))) (Jn 3 R ?_)))))
  cases h
  exact Jv1 _ tv ⟨R,_,(Jx2 _ _).wk R⟩ (KM R)
  rintro _ w47 _ ⟨rfl,K48,S49⟩
  have h:=hK43
  refine Ob h fun x54 hx54 h=>Jf R (Jf2 f39.rdc hx54 U70 Z4 R R hn40 R) (Ob h fun y187 hy187 h=>Jk1 (κ:=K48) (E:=Ep.bool) 6 [] R R R R R R R R Z4 R R R R (f39.stp S49 R R) hy187 fun w51 K52 S53 f54=>⟨tv,?_⟩)
  have hn55:x32.length=y187.length:=hn40.trans (Jt2 hy187).2.2.2.symm
  refine Jo (Jz (Jp (Ja [2,2,2] R (Jc 3 R ?_))))
  have hw28:IntKind.wrap .i64 (v9+1)=v9+1:=wr1 hj28 (Jm2 hc28) hN28
  rw[hw28]
  have hc28:=Jm2 hc28
  cases h
  exact Jz1 fun a ha=>⟨k,_,Ja3 _,⟨K52,v9+1,(y187:(List Bool)),R,(S38.tr (S49.tr S53)).wk R,f54,hn55,by omega,by omega,hk41⟩,(ha.mm R)⟩
  rintro _ w31 ⟨K32,s3,rfl,S33,f34,hn35,rfl⟩
  have h:=hK29
  dsimp only[aft]at h
  refine Jp (Je [2,1,2,2,2,1,1,2] R (Jn 1 R ?_))
  have f56:=f4.stp (S15.tr (S20.tr (S26.tr S33))) R R
  refine Jl tv R R R R (Jd2 (cs:=[.slice ah p0.owner.length ad,.slice am p0.prio.length ai,.slice aj p0.next.length ac,.slice ak p0.prev.length af,.slice ae p0.pick.length al]) I111 Z111 R R R (haE f56.cells)) (Jn 3 R (Ob h fun x60 hx60 h=>?_))
  have f57:=f5.stp (S15.tr (S20.tr (S26.tr S33))) R R
  have f58:=f6.stp (S15.tr (S20.tr (S26.tr S33))) R R
  have f59:=f7.stp (S15.tr (S20.tr (S26.tr S33))) R R
  have f60:=f8.stp (S15.tr (S20.tr (S26.tr S33))) R R
  have f61:=f9.stp (S15.tr (S20.tr (S26.tr S33))) R R
  have f62:=f10.stp (S15.tr (S20.tr (S26.tr S33))) R R
  refine Jh R R R C151 (Ret.cast (by simp only[hn35,List.cons_append,List.nil_append]) (s_l7Attract_ok (κ:=fun b=>mp [] 0 (K32 b)) (p0:=p0) (Jl2 f57 (mp [] 0) R R) (Jl2 f58 (mp [] 0) R R) (Jl2 f59 (mp [] 0) R R) (Jl2 f60 (mp [] 0) R R) (Jl2 f61 (mp [] 0) R R) (Jl2 f62 (mp [] 0) R R) (Jl2 f34.rdc (mp [] 0) R R) hx60)) ?_
  rintro _ w63 ⟨k64,aB,aC,rfl,e65,f66⟩
  obtain⟨K67,S68,m69⟩:=Ji e65 7 R
  refine⟨tv,Ob h fun x61 hx61 h=>?_⟩
  have f72:=f62.stp S68 R R
  refine Jh R R R C150 (s_l7Less_ok (κ:=fun b=>mp [] 0 (K67 b)) (Jl2 f72 (mp [] 0) R R) (Jl2 (f66.mx no_bool m69 R (R:7+2=9)).rdc (mp [] 0) R R) hx61) ?_
  rintro _ w73 ⟨k74,az,av,rfl,e75,f76⟩
  obtain⟨K77,S78,m79⟩:=Ji e75 10 R
  refine⟨tv,?_⟩
  have f81:=f76.mx no_bool m79 R (R:10+2=12)
  refine Jb 1 R (Je [1,2,1,2] R ?_)
  have f82:=f56.stp (S68.tr S78) R R
  refine Jl tv R R R R (Jd2 (cs:=[.slice ah p0.owner.length ad,.slice am p0.prio.length ai,.slice aj p0.next.length ac,.slice ak p0.prev.length af,.slice ae p0.pick.length al]) I111 Z111 R R R (haE f82.cells)) (Jn 1 R (Ob h fun x64 hx64 h=>?_))
  have f83:=f57.stp (S68.tr S78) R R
  have f84:=f58.stp (S68.tr S78) R R
  have f85:=f59.stp (S68.tr S78) R R
  have f86:=f60.stp (S68.tr S78) R R
  have f87:=f61.stp (S68.tr S78) R R
  refine Jh R R R C126 (ih (κ:=fun b=>mp [] 0 (K77 b)) (p0:=p0) (Jl2 f83 (mp [] 0) R R) (Jl2 f84 (mp [] 0) R R) (Jl2 f85 (mp [] 0) R R) (Jl2 f86 (mp [] 0) R R) (Jl2 f87 (mp [] 0) R R) (Jl2 f81.rdc (mp [] 0) R R) hx64) ?_
  rintro _ w88 ⟨k89,ax,aw,rfl,e90,f91⟩
  obtain⟨K92,S93,m94⟩:=Ji e90 13 R
  refine⟨tv,?_⟩
  have f96:=f91.mx no_bool m94 R (R:13+2=15)
  refine Jb 1 R (Je [2,2,1,2] R (Jn 1 R (Jf R (Je2 U70 R R) (Ob h fun x67 hx67 h=>Jl1 (κ:=K92) (E:=Ep.bool) (z:=(false:Bool)) 16 R R R R R R R Y70 Tryzinfo4 R R R R R (fun _ _ _=>R) (Ju2 hx67) fun ao an w97 K98 S99 f100=>⟨tv,Jb 1 R (Je [2] R (Jb 1 R (Jq (Je [2] R (Jb 1 R ?_)))))⟩))))
  have hN101:(p1.length:Int)≤9223372036854775807:=f72.len_le
  refine Ob h fun q5 hq103 hK102=>?_
  clear h
  refine Jx1 (fun L w'=>∃κ',∃s6:Bool×(List Bool),L=[(1,.slice a1 p1.length u1),(2,.pointer (some ⟨b2,0,none⟩)),(6,.slice ab x24.length aa),(7,vi (Int.tmod x21 2)),(12,.slice ao x67.length an),(13,.bool s6.1)]∧Stp [16] K98 w97 κ' w'∧Oc Ep.bool 4 κ' w' 16 ao an s6.2∧x67.length=s6.2.length∧q5=Sum.inr s6) ?_ ?_
  refine Jv (Jy1 (fun k L w'=>∃κ' v14,∃s4:Bool×(List Bool),L=[(1,.slice a1 p1.length u1),(2,.pointer (some ⟨b2,0,none⟩)),(6,.slice ab x24.length aa),(7,vi (Int.tmod x21 2)),(10,.slice az x61.length av),(11,.slice ax x64.length aw),(12,.slice ao x67.length an),(13,.bool s4.1),(14,vi v14)]∧Stp [16] K98 w97 κ' w'∧Oc Ep.bool 4 κ' w' 16 ao an s4.2∧x67.length=s4.2.length∧0≤v14∧Int.toNat ((p1.length:Int)-v14)=k∧cntM (s_l7Win_b2 x21 x61 x64) k v14 s4=some q5) ⟨_,_,⟨K98,0,((false:Bool),(x67:(List Bool))),R,(Jx2 _ _).wk R,f100,R,(by decide),(by simp),hq103⟩,(KM R)⟩ ?_)
  rintro k _ w109 ⟨K110,v14,s4,rfl,S111,f112,hn113,hj101,hJ101,h⟩
  rcases k with _ | k
  have hk114:=h;obtain⟨o101,h⟩:=ex_eq (Sum.inr (Sum.inl s4):(List Bool)⊕((Bool×(List Bool))⊕(Bool×(List Bool))))
  have hc101:decide (v14<(p1.length:Int))=false:=Jo2 (by omega)
  refine Jq (Je [2,2,2,2] R (Jn 2 R (Jf R (Je2 U70 R R) (Jb 1 R (Jw2 R hc101 (Jc1 (Jt (Jt ?_))))))))
  cases h
  have h:=hk114
  refine Jb1 ?_
  cases h
  exact Jw1 _ ⟨K110,((s4.1:Bool),(s4.2:(List Bool))),R,S111.wk R,f112,hn113,R⟩ (KM R)
  obtain⟨o101,h,hk114⟩:=BI h;unfold s_l7Win_b2 at h
  have hc101:decide (v14<(p1.length:Int))=true:=Jn2 (by omega)
  refine Jq (Je [2,2,2,2] R (Jn 2 R (Jf R (Je2 U70 R R) (Jb 1 R (Jv2 R hc101 (Js (Jp (Jq (Jv (Je [2,2,2,2,2,1,2,2,2,2,1,2,2,2,2,2,1] R (Jn 4 R (Ob h fun x78 hx78 h=>Jf R (Jf2 f81.rdc hx78 U70 Z4 R R R R) (Jl tv R R R R (Jc2 I4 R R (hvE ((f81.stp (S93.tr (S99.tr S111)) R R).rdc.gBool hx78))) (Jn 1 R (Ob h fun p88 h hK116=>Ju1 [(7,2),(8,2),(9,2),(10,1),(11,2),(12,2),(13,2),(14,2)] [(15,2),(16,1)] (fun L w'=>L=[(1,.slice a1 p1.length u1),(2,.pointer (some ⟨b2,0,none⟩)),(6,.slice ab x24.length aa),(7,vi (Int.tmod x21 2)),(10,.slice az x61.length av),(11,.slice ax x64.length aw),(12,.slice ao x67.length an),(13,.bool s4.1),(14,vi v14),(74,.slice ao x67.length an),(75,vi v14),(88,.bool p88)]∧∃κ',Stp [] K110 w109 κ' w') tv ?_ ?_)))))))))))))))
  revert h
  cases ht117:x78
  refine JF fun h=>Jn 3 R (Jd1 R R R R (Jn 4 R ?_))
  cases h
  exact Jv1 _ tv ⟨R,_,(Jx2 _ _).wk R⟩ (KM R)
  refine JT fun h=>Jn 2 R (Ob h fun x83 hx83 h=>Jf R (Jf2 f96.rdc hx83 U70 Z4 R R R R) (Jl tv R R R R (Jc2 I4 R R (hvE ((f96.stp (S99.tr S111) R R).rdc.gBool hx83))) (Jn 2 R (Jf R (rn_neqB R R U4 R) (Jn 1 R ?_)))))
  cases h
  exact Jv1 _ tv ⟨R,_,(Jx2 _ _).wk R⟩ (KM R)
  rintro _ w119 _ ⟨rfl,K120,S121⟩
  have h:=hK116
  refine Ob h fun x89 hx89 h=>Jf R (Jf2 f112.rdc hx89 U70 Z4 R R hn113 R) (Ob h fun y206 hy206 h=>Jk1 (κ:=K120) (E:=Ep.bool) 16 [] R R R R R R R R Z4 R R R R (f112.stp S121 R R) hy206 fun w123 K124 S125 f126=>⟨tv,?_⟩)
  have hn127:x67.length=y206.length:=hn113.trans (Jt2 hy206).2.2.2.symm
  refine Jd (Ja [2,2,2,2,2,1,2,2] R (Jn 2 R (Ob h fun p96 h hK128=>Ju1 [(2,2),(3,2),(4,2),(5,1),(6,2)] [(7,2)] (fun L w'=>L=[(1,.slice a1 p1.length u1),(2,.pointer (some ⟨b2,0,none⟩)),(6,.slice ab x24.length aa),(7,vi (Int.tmod x21 2)),(10,.slice az x61.length av),(11,.slice ax x64.length aw),(12,.slice ao x67.length an),(13,.bool s4.1),(14,vi v14),(96,.bool p96)]∧∃κ',Stp [] K124 w123 κ' w') tv ?_ ?_)))
  revert h
  cases ht129:s4.1
  refine JF fun h=>Jn 2 R (Ob h fun x94 hx94 h=>Jf R (Jf2 f126.rdc hx94 U70 Z4 R R hn127 R) (Jl tv R R R R (Jc2 I4 R R (hvE (f126.rdc.gBool hx94))) (Jn 1 R ?_)))
  cases h
  exact Jv1 _ tv ⟨R,_,(Jx2 _ _).wk R⟩ (KM R)
  refine JT fun h=>Jn 3 R (Jd1 R R R R (Jn 1 R ?_))
  cases h
  exact Jv1 _ tv ⟨R,_,(Jx2 _ _).wk R⟩ (KM R)
  rintro _ w130 _ ⟨rfl,K131,S132⟩
  have h:=hK128
  refine Jc 1 R (Jz (Jp (Ja [2,2,2] R (Jc 3 R ?_))))
  have hw101:IntKind.wrap .i64 (v14+1)=v14+1:=wr1 hj101 (Jm2 hc101) hN101
  rw[hw101]
  have hc101:=Jm2 hc101
  cases h
  exact Jz1 fun a ha=>⟨k,_,Ja3 _,⟨K131,v14+1,((p96:Bool),(y206:(List Bool))),R,(S111.tr (S121.tr (S125.tr S132))).wk R,(f126.stp S132 R R),hn127,by omega,by omega,hk114⟩,(ha.mm R)⟩
  rintro _ w104 ⟨K105,s6,rfl,S106,f107,hn108,rfl⟩
  have h:=hK102
  dsimp only[aft]at h
  refine Jp (Jq (Je [2,2] R (Jb 2 R ?_)))
  revert h
  cases ht134:(!s6.1)
  refine JF fun h=>Jy R (Js (Jp (Je [1,2,2,2,2,1,2] R ?_)))
  have f163:=f82.stp (S93.tr (S99.tr S106)) R R
  refine Jl tv R R R R (Jd2 (cs:=[.slice ah p0.owner.length ad,.slice am p0.prio.length ai,.slice aj p0.next.length ac,.slice ak p0.prev.length af,.slice ae p0.pick.length al]) I111 Z111 R R R (haE f163.cells)) (Jn 4 R (Ob h fun x122 hx122 h=>?_))
  have f164:=f83.stp (S93.tr (S99.tr S106)) R R
  have f165:=f84.stp (S93.tr (S99.tr S106)) R R
  have f166:=f85.stp (S93.tr (S99.tr S106)) R R
  have f167:=f86.stp (S93.tr (S99.tr S106)) R R
  have f168:=f87.stp (S93.tr (S99.tr S106)) R R
  have f169:=f72.stp (S78.tr (S93.tr (S99.tr S106))) R R
  refine Jh R R R C151 (Ret.cast (by simp only[hn108,List.cons_append,List.nil_append]) (s_l7Attract_ok (κ:=fun b=>mp [] 0 (K105 b)) (p0:=p0) (Jl2 f164 (mp [] 0) R R) (Jl2 f165 (mp [] 0) R R) (Jl2 f166 (mp [] 0) R R) (Jl2 f167 (mp [] 0) R R) (Jl2 f168 (mp [] 0) R R) (Jl2 f169 (mp [] 0) R R) (Jl2 f107.rdc (mp [] 0) R R) hx122)) ?_
  rintro _ w170 ⟨k171,ar,au,rfl,e172,f173⟩
  obtain⟨K174,S175,m176⟩:=Ji e172 17 R
  refine⟨tv,Jb 1 R (Jq (Js1 (κ:=K174) [2] none [(1,2),(2,2),(0,0),(3,1),(4,1),(5,2)] [] (by kernel_rfl) (by kernel_rfl) fun w180 S179=>Jn 2 R (Jg R (Jd2 (cs:=[.slice ah p0.owner.length ad,.slice am p0.prio.length ai,.slice aj p0.next.length ac,.slice ak p0.prev.length af,.slice ae p0.pick.length al]) I111 Z111 R R R (haC (f163.stp (S175.tr S179) R R).cells R)) (Ob h fun x126 hx126 h=>?_))))⟩
  have f182:=f169.stp (S175.tr S179) R R
  have f183:=(f173.mx no_bool m176 R (R:17+2=19)).stp S179 R R
  refine Jh R R R C150 (s_l7Less_ok (κ:=fun b=>mp [] 0 (K174 b)) (Jl2 f182 (mp [] 0) R R) (Jl2 f183.rdc (mp [] 0) R R) hx126) ?_
  rintro _ w184 ⟨k185,aE,aD,rfl,e186,f187⟩
  obtain⟨K188,S189,m190⟩:=Ji e186 20 R
  have S002:=(S175.tr (S179.tr S189))
  refine⟨(S189.cl R),Ob h fun x127 hx127 h=>Jh R R R C126 (ih (κ:=fun b=>mp [] 0 (K188 b)) (p0:=p0) (Jl2 (f164.stp S002 R R) (mp [] 0) R R) (Jl2 (f165.stp S002 R R) (mp [] 0) R R) (Jl2 (f166.stp S002 R R) (mp [] 0) R R) (Jl2 (f167.stp S002 R R) (mp [] 0) R R) (Jl2 (f168.stp S002 R R) (mp [] 0) R R) (Jl2 (f187.mx no_bool m190 R (R:20+2=22)).rdc (mp [] 0) R R) hx127) ?_⟩
  rintro _ w198 ⟨k199,ay,aA,rfl,e200,f201⟩
  obtain⟨K202,S203,m204⟩:=Ji e200 23 R
  refine⟨((S189.tr S203).cl R),?_⟩
  have f206:=f201.mx no_bool m204 R (R:23+2=25)
  refine Jn 1 R (Jt1 (Jd (Jq (Je [2] R (Jb 1 R ?_)))))
  have hN207:(p1.length:Int)≤9223372036854775807:=f182.len_le
  refine Ob h fun q11 hq209 hK208=>?_
  clear h
  refine Jx1 (fun L w'=>∃κ',∃s12:(List Bool),L=[(6,.slice ab x24.length aa)]∧Stp [5] K202 w198 κ' w'∧Oc Ep.bool 4 κ' w' 5 ab aa s12∧x24.length=s12.length∧q11=Sum.inr s12) ?_ ?_
  refine Jv (Jy1 (fun k L w'=>∃κ' v18,∃s10:(List Bool),L=[(1,.slice a1 p1.length u1),(6,.slice ab x24.length aa),(7,vi (Int.tmod x21 2)),(16,.slice ar x122.length au),(17,.slice ay x127.length aA),(18,vi v18)]∧Stp [5] K202 w198 κ' w'∧Oc Ep.bool 4 κ' w' 5 ab aa s10∧x24.length=s10.length∧0≤v18∧Int.toNat ((p1.length:Int)-v18)=k∧cntM (s_l7Win_b6 x21 x122 x127) k v18 s10=some q11) ⟨_,_,⟨K202,0,(x24:(List Bool)),R,(Jx2 _ _).wk R,(f21.stp (S26.tr (S33.tr (S68.tr (S78.tr (S93.tr (S99.tr (S106.tr (S175.tr (S179.tr (S189.tr S203)))))))))) R R),R,(by decide),(by simp),hq209⟩,(KM R)⟩ ?_)
  rintro k _ w215 ⟨K216,v18,s10,rfl,S217,f218,hn219,hj207,hJ207,h⟩
  rcases k with _ | k
  have hk221:=h;obtain⟨o207,h⟩:=ex_eq (Sum.inr (Sum.inl s10):(List Bool)⊕(((List Bool))⊕((List Bool))))
  have hc207:decide (v18<(p1.length:Int))=false:=Jo2 (by omega)
  refine Jq (Je [2,2,2,2] R (Jn 2 R (Jf R (Je2 U70 R R) (Jb 1 R (Jw2 R hc207 (Jc1 (Jt (Jt ?_))))))))
  cases h
  have h:=hk221
  refine Jb1 ?_
  cases h
  exact Jw1 _ ⟨K216,(s10:(List Bool)),R,S217.wk R,f218,hn219,R⟩ (KM R)
  obtain⟨o207,h,hk221⟩:=BI h;unfold s_l7Win_b6 at h
  have hc207:decide (v18<(p1.length:Int))=true:=Jn2 (by omega)
  refine Jq (Je [2,2,2,2] R (Jn 2 R (Jf R (Je2 U70 R R) (Jb 1 R (Jv2 R hc207 (Js (Jp (Jq (Jv (Ja [2,2,2,2,2,1,2,2,2,2,1,2,2,2,2,2,2,1] R (Jn 4 R (Ob h fun x138 hx138 h=>Jf R (Jf2 f206.rdc hx138 U70 Z4 R R R R) (Jl tv R R R R (Jc2 I4 R R (hvE ((f206.stp S217 R R).rdc.gBool hx138))) (Jn 1 R (Ob h fun p149 h hK223=>Ju1 [(7,2),(8,2),(9,2),(10,1),(11,2),(12,2),(13,2),(14,2),(15,2)] [(16,2),(17,1)] (fun L w'=>L=[(1,.slice a1 p1.length u1),(6,.slice ab x24.length aa),(7,vi (Int.tmod x21 2)),(16,.slice ar x122.length au),(17,.slice ay x127.length aA),(18,vi v18),(134,.slice ab x24.length aa),(135,vi v18),(149,.bool p149)]∧∃κ',Stp [] K216 w215 κ' w') tv ?_ ?_)))))))))))))))
  revert h
  cases ht224:x138
  refine JF fun h=>Jn 2 R (Ob h fun x143 hx143 h=>Jf R (Jf2 f183.rdc hx143 U70 Z4 R R R R) (Jl tv R R R R (Jc2 I4 R R (hvE ((f183.stp (S189.tr (S203.tr S217)) R R).rdc.gBool hx143))) (Jn 1 R (Ob h fun p148 h hK226=>Ju1 [(12,2),(13,2),(14,2)] [(15,2)] (fun L w'=>L=[(1,.slice a1 p1.length u1),(6,.slice ab x24.length aa),(7,vi (Int.tmod x21 2)),(16,.slice ar x122.length au),(17,.slice ay x127.length aA),(18,vi v18),(134,.slice ab x24.length aa),(135,vi v18),(140,.bool false),(141,.slice ar x122.length au),(142,vi v18),(143,.pointer (some (aAt ar (v18.toNat * 1)))),(144,.bool x143),(145,.bool x143),(148,.bool p148)]∧∃κ',Stp [] K216 w215 κ' w') tv ?_ ?_))))
  revert h
  cases ht227:x143
  refine JF fun h=>Jn 3 R ?_
  cases h
  exact Jv1 _ tv ⟨R,_,(Jx2 _ _).wk R⟩ (KM R)
  refine JT fun h=>Jn 3 R ?_
  cases h
  exact Jv1 _ tv ⟨R,_,(Jx2 _ _).wk R⟩ (KM R)
  rintro _ w228 _ ⟨rfl,K229,S230⟩
  have h:=hK226
  refine Jn 1 R ?_
  cases h
  exact Jv1 _ tv ⟨R,_,S230.wk R⟩ (KM R)
  refine JT fun h=>Jn 3 R (Jd1 R R R R (Jn 5 R ?_))
  cases h
  exact Jv1 _ tv ⟨R,_,(Jx2 _ _).wk R⟩ (KM R)
  rintro _ w231 _ ⟨rfl,K232,S233⟩
  have h:=hK223
  refine Ob h fun x150 hx150 h=>Jf R (Jf2 f218.rdc hx150 U70 Z4 R R hn219 R) (Ob h fun y211 hy211 h=>Jk1 (κ:=K232) (E:=Ep.bool) 5 [] R R R R R R R R Z4 R R R R (f218.stp S233 R R) hy211 fun w235 K236 S237 f238=>⟨tv,?_⟩)
  have hn239:x24.length=y211.length:=hn219.trans (Jt2 hy211).2.2.2.symm
  refine Jo (Jz (Jp (Ja [2,2,2] R (Jc 3 R ?_))))
  have hw207:IntKind.wrap .i64 (v18+1)=v18+1:=wr1 hj207 (Jm2 hc207) hN207
  rw[hw207]
  have hc207:=Jm2 hc207
  cases h
  exact Jz1 fun a ha=>⟨k,_,Ja3 _,⟨K236,v18+1,(y211:(List Bool)),R,(S217.tr (S233.tr S237)).wk R,f238,hn239,by omega,by omega,hk221⟩,(ha.mm R)⟩
  rintro _ w210 ⟨K211,s12,rfl,S212,f213,hn214,rfl⟩
  have h:=hK208
  dsimp only[aft]at h
  refine Jp (Je [2,2] R (Jb 2 R (Ju (Ja2 (l:=[.tmp 4]) V126 (Jp2 R R) R ?_))))
  cases h
  exact⟨(fun b=>ren [(5,2)] (K211 b)),ab,aa,(by simp only[hn214]),((hE.stp (S3.tr (S15.tr (S20.tr (S26.tr (S33.tr (S68.tr (S78.tr (S93.tr (S99.tr (S106.tr (S175.tr (S179.tr (S189.tr (S203.tr S212)))))))))))))) R R).map (ren [(5,2)]) R R),(f213.map (ren [(5,2)]) R R)⟩
  refine JT fun h=>Jx R (Jq (Je [2] R (Jb 1 R ?_)))
  have hN135:(p1.length:Int)≤9223372036854775807:=f72.len_le
  refine Ob h fun q8 hq137 hK136=>?_
  clear h
  refine Jx1 (fun L w'=>∃κ',∃s9:(List Bool),L=[(6,.slice ab x24.length aa)]∧Stp [5] K105 w104 κ' w'∧Oc Ep.bool 4 κ' w' 5 ab aa s9∧x24.length=s9.length∧q8=Sum.inr s9) ?_ ?_
  refine Jv (Jy1 (fun k L w'=>∃κ' v15,∃s7:(List Bool),L=[(1,.slice a1 p1.length u1),(6,.slice ab x24.length aa),(7,vi (Int.tmod x21 2)),(15,vi v15)]∧Stp [5] K105 w104 κ' w'∧Oc Ep.bool 4 κ' w' 5 ab aa s7∧x24.length=s7.length∧0≤v15∧Int.toNat ((p1.length:Int)-v15)=k∧cntM (s_l7Win_b4 p1 x21) k v15 s7=some q8) ⟨_,_,⟨K105,0,(x24:(List Bool)),R,(Jx2 _ _).wk R,(f21.stp (S26.tr (S33.tr (S68.tr (S78.tr (S93.tr (S99.tr S106)))))) R R),R,(by decide),(by simp),hq137⟩,(KM R)⟩ ?_)
  rintro k _ w143 ⟨K144,v15,s7,rfl,S145,f146,hn147,hj135,hJ135,h⟩
  rcases k with _ | k
  have hk149:=h;obtain⟨o135,h⟩:=ex_eq (Sum.inr (Sum.inl s7):(List Bool)⊕(((List Bool))⊕((List Bool))))
  have hc135:decide (v15<(p1.length:Int))=false:=Jo2 (by omega)
  refine Jq (Je [2,2,2,2] R (Jn 2 R (Jf R (Je2 U70 R R) (Jb 1 R (Jw2 R hc135 (Jc1 (Jt (Jt ?_))))))))
  cases h
  have h:=hk149
  refine Jb1 ?_
  cases h
  exact Jw1 _ ⟨K144,(s7:(List Bool)),R,S145.wk R,f146,hn147,R⟩ (KM R)
  obtain⟨o135,h,hk149⟩:=BI h;unfold s_l7Win_b4 at h
  have hc135:decide (v15<(p1.length:Int))=true:=Jn2 (by omega)
  refine Jq (Je [2,2,2,2] R (Jn 2 R (Jf R (Je2 U70 R R) (Jb 1 R (Jv2 R hc135 (Js (Jp (Jq (Jv (Ja [2,2,2,2,2,1,2,2,2,2,2,1] R (Jn 4 R (Ob h fun x109 hx109 h=>Jf R (Jf2 f72 hx109 U70 Z4 R R R R) (Jl tv R R R R (Jc2 I4 R R (hvE ((f72.stp (S78.tr (S93.tr (S99.tr (S106.tr S145)))) R R).gBool hx109))) (Jn 1 R (Ob h fun p114 h hK151=>Ju1 [(7,2),(8,2),(9,2)] [(10,2),(11,1)] (fun L w'=>L=[(1,.slice a1 p1.length u1),(6,.slice ab x24.length aa),(7,vi (Int.tmod x21 2)),(15,vi v15),(105,.slice ab x24.length aa),(106,vi v15),(114,.bool p114)]∧∃κ',Stp [] K144 w143 κ' w') tv ?_ ?_)))))))))))))))
  revert h
  cases ht152:x109
  refine JF fun h=>Jn 3 R ?_
  cases h
  exact Jv1 _ tv ⟨R,_,(Jx2 _ _).wk R⟩ (KM R)
  refine JT fun h=>Jn 3 R ?_
  cases h
  exact Jv1 _ tv ⟨R,_,(Jx2 _ _).wk R⟩ (KM R)
  rintro _ w153 _ ⟨rfl,K154,S155⟩
  have h:=hK151
  refine Ob h fun x115 hx115 h=>Jf R (Jf2 f146.rdc hx115 U70 Z4 R R hn147 R) (Ob h fun y207 hy207 h=>Jk1 (κ:=K154) (E:=Ep.bool) 5 [] R R R R R R R R Z4 R R R R (f146.stp S155 R R) hy207 fun w157 K158 S159 f160=>⟨tv,?_⟩)
  have hn161:x24.length=y207.length:=hn147.trans (Jt2 hy207).2.2.2.symm
  refine Jo (Jz (Jp (Ja [2,2,2] R (Jc 3 R ?_))))
  have hw135:IntKind.wrap .i64 (v15+1)=v15+1:=wr1 hj135 (Jm2 hc135) hN135
  rw[hw135]
  have hc135:=Jm2 hc135
  cases h
  exact Jz1 fun a ha=>⟨k,_,Ja3 _,⟨K158,v15+1,(y207:(List Bool)),R,(S145.tr (S155.tr S159)).wk R,f160,hn161,by omega,by omega,hk149⟩,(ha.mm R)⟩
  rintro _ w138 ⟨K139,s9,rfl,S140,f141,hn142,rfl⟩
  have h:=hK136
  dsimp only[aft]at h
  refine Jp (Je [2,2] R (Jb 2 R (Ju (Jw (Ja2 (l:=[.tmp 4]) V126 (Jp2 R R) R ?_)))))
  cases h
  exact⟨(fun b=>ren [(5,2)] (K139 b)),ab,aa,(by simp only[hn142]),((hE.stp (S3.tr (S15.tr (S20.tr (S26.tr (S33.tr (S68.tr (S78.tr (S93.tr (S99.tr (S106.tr S140)))))))))) R R).map (ren [(5,2)]) R R),(f141.map (ren [(5,2)]) R R)⟩
  refine JT fun h=>Jx R (Je [2,2] R (Jb 2 R (Ju (Jw (Ja2 (l:=[.tmp 4]) V126 (Jp2 R R) R ?_)))))
  cases h
  exact⟨(fun b=>ren [(5,2)] (K19 b)),ab,aa,R,((hE.stp (S3.tr (S15.tr S20)) R R).map (ren [(5,2)]) R R),(f21.map (ren [(5,2)]) R R)⟩
theorem i_wonIn_ok {w:World}{κ:Col}{ab aa ac ad af ae}{p0:Parity}{a1 u1}{p1:(List Int)}(g0_0_0:Rd (Rp.int .i64) κ w 0 ab aa p0.Arena.Owner) (g0_0_1:Rd (Rp.sl (Rp.int .i64)) κ w 0 ac ad p0.Arena.Next) (g0_1:Rd (Rp.int .i64) κ w 0 af ae p0.Prio) (g1:Rd (Rp.int .i64) κ w 0 a1 u1 p1){r:(List Int)×(List Int)}(h:i_wonIn p0 p1=some r):Ret Tryz.prog 101 [.agg #[.slice ab p0.Arena.Owner.length aa,.slice ac p0.Arena.Next.length ad,.slice af p0.Prio.length ae],.slice a1 p1.length u1] w (fun v w'=>∃(κ':Col) (ra0:Option Addr) (ru0:Nat) (ra1:Option Addr) (ru1:Nat),v= .tuple #[.slice ra0 r.1.length ru0,.slice ra1 r.2.length ru1]∧Ent κ w κ' w'∧Oc E6 2 κ' w' 2 ra0 ru0 r.1∧Oc E6 2 κ' w' 3 ra1 ru1 r.2):=by
 unfold i_wonIn at h
 refine Ret.enter F101 R N101 R ?_
 dsimp only[envOf]
 have hE:=Ent.refl κ w
 refine Je [1,2,2] R (Jf1 (κ:=κ) 2 R R R R R R R fun b2 w1 K2 S3 f4=>⟨tv,Jb 2 R (Jq (Js1 (κ:=K2) [2] none [(1,2),(0,0),(2,0),(3,1),(4,2),(5,1),(6,2)] [] (by kernel_rfl) (by kernel_rfl) fun w6 S5=>Jf R (Jb2 U39 R Z37 R R) ?_))⟩)
 have f7:=f4.stp S5 R R
 refine Jg R (Jd2 (cs:=[.slice ab p0.Arena.Owner.length aa,.slice ac p0.Arena.Next.length ad,.slice af p0.Prio.length ae]) I39 Z39 R R R (haC f7.cells R)) (Jg R (Jd2 (cs:=[.slice ab p0.Arena.Owner.length aa,.slice ac p0.Arena.Next.length ad]) I37 Z37 R R R (haC (f7.lds 0 2 R) R)) (Ob h fun x13 hx13 h=>?_))
 have f8:=g0_0_0.stp (S3.tr S5) R R
 have f9:=g0_0_1.stp (S3.tr S5) R R
 refine Jh R R R C91 (i_predsOf_ok (κ:=fun b=>mp [] 0 (K2 b)) (p0:=p0.Arena) (Jl2 f8 (mp [] 0) R R) (Jl2 f9 (mp [] 0) R R) hx13) ?_
 rintro _ w10 ⟨k11,aq,ap,rfl,e12,f13⟩
 obtain⟨K14,S15,m16⟩:=Ji e12 3 R
 refine⟨(S15.cl R),Jf R (rn_build (parts:=[(0,.tmp 10),(1,.tmp 13)]) (cells:=[.slice ab p0.Arena.Owner.length aa,.slice ac p0.Arena.Next.length ad,.slice af p0.Prio.length ae,.slice aq x13.length ap]) R R (by kernel_rfl)) (Jf1 (κ:=K14) 6 R R R R R R R fun b15 w19 K20 S21 f22=>⟨((S15.tr S21).cl R),Jn 1 R (Jt1 (Jd (Je [2,1,2,1,2] R (Jf R (Jb2 U39 R Z37 R R) (Jl tv R R R R (Jd2 (cs:=[.slice ab p0.Arena.Owner.length aa,.slice ac p0.Arena.Next.length ad]) I37 Z37 R R R (haE ((f7.stp (S15.tr S21) R R).lds 0 2 R))) (Jn 1 R (Ob h fun x19 hx19 h=>?_)))))))⟩)⟩
 have f24:=f8.stp (S15.tr S21) R R
 have f25:=f9.stp (S15.tr S21) R R
 refine Jh R R R C46 (i_markOf_ok (κ:=fun b=>mp [] 0 (K20 b)) (p0:=p0.Arena) (Jl2 f24 (mp [] 0) R R) (Jl2 f25 (mp [] 0) R R) (Jl2 (g1.stp (S3.tr (S5.tr (S15.tr S21))) R R) (mp [] 0) R R) hx19) ?_
 rintro _ w27 ⟨k28,ar,aw,rfl,e29,f30⟩
 obtain⟨K31,S32,m33⟩:=Ji e29 7 R
 refine⟨tv,Jb 1 R (Je [2,2,1,2,2,2,2,2] R (Jn 2 R ?_))⟩
 obtain⟨K37,S38,z39⟩:=fz_ex K31 w27 5
 obtain⟨K42,S43,z44⟩:=fz_ex K37 w27 9
 obtain⟨K47,S48,z49⟩:=fz_ex K42 w27 6
 refine Ob h fun x23 hx23 h=>?_
 have f55:=(Sl.st z44 ((f30.mx no_bool m33 R (R:7+2=9)).stp S38 R R).rdc).stp S48 R R
 have S001:=(S32.tr (S38.tr S43))
 refine Jh R R R C130 (i_solver_won_ok _ (κ:=fun b=>mp [] 1 (K47 b)) (p0:=(⟨p0,x13⟩:solver)) (Jl2 (f24.stp (S001.tr S48) R R) (mp [] 1) R R) (Jl2 (f25.stp (S001.tr S48) R R) (mp [] 1) R R) (Jl2 (g0_1.stp (S3.tr (S5.tr (S15.tr (S21.tr (S32.tr (S38.tr (S43.tr S48))))))) R R) (mp [] 1) R R) (Jl2 ((Sl.st z39 ((f13.mx (no_own (no_int _) _) m16 R (R:3+2=5)).stp (S21.tr S32) R R).rdc).stp (S43.tr S48) R R) (mp [] 1) R R) (Jl2 f55 (mp [] 1) R R) ((Bc.fzz z49 (f22.stp S001 R R)).map (mp [] 1) R R) hx23) ?_
 rintro _ w56 ⟨k57,av,au,rfl,e58,f59⟩
 obtain⟨K60,S61,m62,z63⟩:=Jj e58 10 R
 refine⟨tv,?_⟩
 have f64:=f59.mx z63
 refine Jb 5 R (Jq (Je [2,2] R (Jb 2 R ?_)))
 revert h
 cases ht65:(x23.2==0)
 refine JF fun h=>Jy R (Js (Jp (Je [2,2,1,1,2,1,2,2] R (Jn 2 R (Ob h fun x36 hx36 h=>Jh R R R C131 (i_without_ok (κ:=fun b=>mp [] 0 (K60 b)) (Jl2 (f55.stp S61 R R) (mp [] 0) R R) (Jl2 f64 (mp [] 0) R R) hx36) ?_)))))
 rintro _ w98 ⟨k99,ay,az,rfl,e100,f101⟩
 obtain⟨K102,S103,m104⟩:=Ji e100 13 R
 refine⟨tv,Ob h fun x37 hx37 h=>Jh R R R C60 (i_listOf_ok (κ:=fun b=>mp [] 0 (K102 b)) (Jl2 (f101.mx no_bool m104 R (R:13+2=15)).rdc (mp [] 0) R R) hx37) ?_⟩
 rintro _ w107 ⟨k108,al,aj,rfl,e109,f110⟩
 obtain⟨K111,S112,m113⟩:=Ji e109 16 R
 refine⟨tv,Jn 1 R (Ob h fun x39 hx39 h=>Jh R R R C60 (i_listOf_ok (κ:=fun b=>mp [] 0 (K111 b)) (Jl2 (f64.stp (S103.tr S112) R R) (mp [] 0) R R) hx39) ?_)⟩
 rintro _ w117 ⟨k118,ao,ah,rfl,e119,f120⟩
 obtain⟨K121,S122,m123⟩:=Ji e119 19 R
 refine⟨tv,Jb 2 R (Ju (Ja2 (l:=[.tmp 4,.tmp 5]) V101 (Jp2 R (Jp2 R R)) R ?_))⟩
 cases h
 exact⟨(fun b=>ren [(18,2),(21,3)] (K121 b)),al,aj,ao,ah,R,((hE.stp (S3.tr (S5.tr (S15.tr (S21.tr (S32.tr (S38.tr (S43.tr (S48.tr (S61.tr (S103.tr (S112.tr S122))))))))))) R R).map (ren [(18,2),(21,3)]) R R),(((f110.mx (no_int _) m113 R (R:16+2=18)).stp S122 R R).map (ren [(18,2),(21,3)]) R R),((f120.mx (no_int _) m123 R (R:19+2=21)).map (ren [(18,2),(21,3)]) R R)⟩
 refine JT fun h=>Jx R (Je [2,1,2,2,1,1,2,2] R (Jn 1 R (Ob h fun x29 hx29 h=>Jh R R R C60 (i_listOf_ok (κ:=fun b=>mp [] 0 (K60 b)) (Jl2 f64 (mp [] 0) R R) hx29) ?_)))
 rintro _ w66 ⟨k67,an,ak,rfl,e68,f69⟩
 obtain⟨K70,S71,m72⟩:=Ji e68 13 R
 refine⟨tv,Jn 2 R (Ob h fun x32 hx32 h=>Jh R R R C131 (i_without_ok (κ:=fun b=>mp [] 0 (K70 b)) (Jl2 (f55.stp (S61.tr S71) R R) (mp [] 0) R R) (Jl2 (f64.stp S71 R R) (mp [] 0) R R) hx32) ?_)⟩
 rintro _ w77 ⟨k78,aA,ax,rfl,e79,f80⟩
 obtain⟨K81,S82,m83⟩:=Ji e79 16 R
 refine⟨tv,Ob h fun x33 hx33 h=>Jh R R R C60 (i_listOf_ok (κ:=fun b=>mp [] 0 (K81 b)) (Jl2 (f80.mx no_bool m83 R (R:16+2=18)).rdc (mp [] 0) R R) hx33) ?_⟩
 rintro _ w86 ⟨k87,ai,am,rfl,e88,f89⟩
 obtain⟨K90,S91,m92⟩:=Ji e88 19 R
 refine⟨tv,Jb 2 R (Ju (Jw (Ja2 (l:=[.tmp 4,.tmp 5]) V101 (Jp2 R (Jp2 R R)) R ?_)))⟩
 cases h
 exact⟨(fun b=>ren [(15,2),(21,3)] (K90 b)),an,ak,ai,am,R,((hE.stp (S3.tr (S5.tr (S15.tr (S21.tr (S32.tr (S38.tr (S43.tr (S48.tr (S61.tr (S71.tr (S82.tr S91))))))))))) R R).map (ren [(15,2),(21,3)]) R R),(((f69.mx (no_int _) m72 R (R:13+2=15)).stp (S82.tr S91) R R).map (ren [(15,2),(21,3)]) R R),((f89.mx (no_int _) m92 R (R:19+2=21)).map (ren [(15,2),(21,3)]) R R)⟩
theorem s_l4Set_ok {w:World}{κ:Col}{ae aa ab ac af ad}{p0:Parity}{a1 u1}{p1:(List Int)}(g0_0_0:Rd (Rp.int .i64) κ w 0 ae aa p0.Arena.Owner) (g0_0_1:Rd (Rp.sl (Rp.int .i64)) κ w 0 ab ac p0.Arena.Next) (g0_1:Rd (Rp.int .i64) κ w 0 af ad p0.Prio) (g1:Rd (Rp.int .i64) κ w 0 a1 u1 p1){r:Bool}(h:s_l4Set p0 p1=some r):Ret Tryz.prog 155 [.agg #[.slice ae p0.Arena.Owner.length aa,.slice ab p0.Arena.Next.length ac,.slice af p0.Prio.length ad],.slice a1 p1.length u1] w (fun v w'=>∃(κ':Col),v= .bool r∧Ent κ w κ' w'):=by
 unfold s_l4Set at h
 refine Ret.enter F155 R N155 R ?_
 dsimp only[envOf]
 have hE:=Ent.refl κ w
 refine Je [1,2] R (Jf1 (κ:=κ) 2 R R R R R R R fun b2 w1 K2 S3 f4=>⟨tv,Jb 1 R (Je [2,2,1,2,1,2] R (Jn 1 R (Jf R (Jb2 U39 R Z22 R R) (Jl tv R R R R (Jc2 I22 R R (hvE (f4.ld 2 R R))) (Jf R (Je2 U22 R R) (Ob h fun x9 hx9 h=>Jh R R R C123 (s_l1Set_ok (κ:=fun b=>mp [] 0 (K2 b)) (Jl2 (g1.stp S3 R R) (mp [] 0) R R) hx9) ?_))))))⟩)
 rintro _ w6 ⟨k7,rfl,e8⟩
 obtain⟨K9,S10,m11⟩:=Ji e8 3 R
 refine⟨tv,Jb 1 R (Ju (Ja2 (l:=[.tmp 4]) V155 (Jp2 R R) R ?_))⟩
 cases h
 exact⟨K9,R,(hE.stp (S3.tr S10) R R)⟩
end Go.Proofs.YtmiilifclnanlaaGreat
