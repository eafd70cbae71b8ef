/- The walks, part 4. By program. -/
import Derived.Test.YtpcjbkgbnoocaaaGreatFns0EI
import Derived.Test.YtpcjbkgbnoocaaaGreatFns1EI
import Derived.Test.YtpcjbkgbnoocaaaGreatFns2EI
import Derived.Test.YtpcjbkgbnoocaaaGreatFns3EI
set_option linter.unusedVariables false
set_option linter.unusedSimpArgs false
open Go.IntKind renaming wrap → t5
open Sum renaming inr → t9, inl → vF
open Int renaming toNat → vH
namespace Go.Proofs.YtpcjbkgbnoocaaaGreat
open Go Go.Wk Go.Proofs
set_option maxRecDepth 100000
set_option maxHeartbeats 1000000
theorem qd {w:World}{κ:Col}{a0 u0}{p0:(List Int)}{p1:Int}(g0:Rd (Rp.int .i64) κ w 0 a0 u0 p0){r:Bool}(h:j6 p0 p1=some r):Ret Tryz.prog 210 [.slice a0 p0.length u0,vi p1] w (λv w'=>∃(κ':Col),v= .bool r/\Ent κ w κ' w'):=by
 unfold j6 at h
 refine Ret.enter F210 R N210 R ?_
 dsimp only[envOf]
 have hE:=Ent.refl κ w
 refine Je3 R (Jq (Je3 R ?_))
 have hN1:(p0.length:Int)<=9223372036854775807:=g0.len_le
 refine Ob h λq2 hq3 hK2=>?_
 clear h
 refine Jx1 (λL w'=>∃κ',L=[]/\Stp [] κ w κ' w'/\q2=t9 ()) ?_ ?_
 refine Jv (Jy1 (λk L w'=>∃κ' v5,L=[(0,.slice a0 p0.length u0),(1,vi p1),(5,vi v5)]/\Stp [] κ w κ' w'/\0<=v5/\vH ((p0.length:Int)-v5)=k/\cntM (gl p0 p1) k v5 ()=some q2) ⟨_,_,⟨κ,0,R,Jj3,(by decide),(by simp),hq3⟩,(KM R)⟩ ?_)
 rintro k _ w7 ⟨K8,v5,rfl,S9,hj1,hJ1,h⟩
 rcases k with _ | k
 have hk10:=h;obtain⟨o1,h⟩:=bO (t9 (vF ()):Bool⊕((Unit)⊕(Unit)))
 have hc1:decide (v5<(p0.length:Int))=false:=Jo2 (by omega)
 refine Jq (Jg3 [2,2,2,2] 2 R (Jf R (Je2 U29 R R) (Jb 1 R (Jw2 R hc1 (Jc1 (Jt (Jt ?_)))))))
 cases h
 have h:=hk10
 refine Jb1 ?_
 cases h
 exact Jw1 _ ⟨K8,R,S9.wk R,R⟩ KN
 obtain⟨o1,h,hk10⟩:=BI h;unfold gl at h
 have hc1:decide (v5<(p0.length:Int))=true:=Jn2 (by omega)
 refine Jq (Jg3 [2,2,2,2] 2 R (Jf R (Je2 U29 R R) (Jb 1 R (Jv2 R hc1 (Js (Jp (Jq (Jv (Jq (Js1 (κ:=K8) [0] none [(0,2),(1,2),(2,2),(4,2),(5,2),(3,0),(6,1),(7,2),(8,2),(9,2),(10,2),(11,2),(12,2),(13,2),(14,2),(16,2),(17,2),(18,2),(19,2),(15,0),(20,0),(21,2),(22,2),(23,2)] [] (by kernel_rfl) (by kernel_rfl) λw12 S11=>Jn 2 R (Ob h λx14 hx14 h=>Jc3 R g0 hx14 U29 Z2 (Jn 2 R ?_))))))))))))
 have f13:=g0.stp (S9.tr S11) R R
 refine Jg R (Jc2 I2 R R (hvC (f13.gInt hx14) R)) (Ob h λx18 hx18 h=>Jh R R R C57 (cO (κ:=Mk K8) hx18) ?_)
 rintro _ w14 ⟨k15,rfl,e16⟩
 obtain⟨K17,S18,m19⟩:=Ji e16 2 R
 refine⟨(S18.cl R),Jn 2 R (Ob h λp35 h hK21=>Ju1 [(9,2),(10,2),(11,2),(12,2),(13,2),(14,2),(16,2),(17,2),(18,2),(19,2),(15,0),(20,0),(21,2),(22,2),(23,2)] [] (λL w'=>L=[(0,.slice a0 p0.length u0),(1,vi p1),(5,vi v5),(35,.bool p35)]/\∃κ',Stp [] K17 w14 κ' w') (S18.cl R) ?_ ?_)⟩
 revert h
 cases ht22:(!x18)
 refine JF λh=>Jn 3 R (Ob h λp34 h hK23=>Ju1 [(12,2),(13,2),(14,2),(16,2),(17,2),(18,2),(19,2),(15,0),(20,0),(21,2),(22,2)] [(23,2)] (λL w'=>L=[(0,.slice a0 p0.length u0),(1,vi p1),(5,vi v5),(20,.bool false),(21,vi v5),(22,.bool (decide (0<v5))),(23,.bool (decide (0<v5))),(34,.bool p34)]/\∃κ',Stp [] K17 w14 κ' w') (S18.cl R) ?_ ?_)
 revert h
 cases ht24:decide (0<v5)
 refine JF λh=>Jn 7 R (Je1 R R R R (Je1 R R R R (Jn 2 R ?_)))
 cases h
 exact Jv1 _ (S18.cl R) ⟨R,_,Jj3⟩ (KM R)
 refine JT λh=>Jn 2 R (Ob h λx26 hx26 h=>Jc3 R f13 hx26 U29 Z2 (Jn 3 R (Ob h λx31 hx31 h=>Jc3 R f13 hx31 U29 Z2 (Jg R (Jc2 I2 R R (hvC (f13.gInt hx26) R)) (Jg R (Jc2 I2 R R (hvC (f13.gInt hx31) R)) (Jn 2 R ?_))))))
 cases h
 exact Jv1 _ (S18.cl R) ⟨R,_,Jj3⟩ (KM R)
 rintro _ w25 _ ⟨rfl,K26,S27⟩
 have h:=hK23
 refine Jn 1 R ?_
 cases h
 exact Jv1 _ ((S18.tr S27).cl R) ⟨R,_,S27.wk R⟩ (KM R)
 refine JT λh=>Jn 10 R (Je1 R R R R (Je1 R R R R (Jn 3 R ?_)))
 cases h
 exact Jv1 _ (S18.cl R) ⟨R,_,Jj3⟩ (KM R)
 rintro _ w28 _ ⟨rfl,K29,S30⟩
 have h:=hK21
 refine Jt1 (Jd ?_)
 revert h
 cases ht31:p35
 refine JF λh=>Jy R (Js (Jz (Jp (Jf3 R ?_))))
 have hw1:t5 .i64 (v5+1)=v5+1:=wr1 hj1 (Jm2 hc1) hN1
 rw[hw1]
 have hc1:=Jm2 hc1
 cases h
 exact Jz1 λa ha=>⟨k,_,Ja3 _,⟨K29,v5+1,R,(S9.tr (S11.tr (S18.tr S30))).wk R,by omega,by omega,hk10⟩,(ha.mm R)⟩
 refine JT λh=>Jx R (Je3 R (Ju (Ja1 (Jw (Jw ?_)))))
 cases h
 obtain rfl:=Option.some.inj hk10
 have h:=hK2
 dsimp only[aft]at h
 refine Ja1 (Jq2 (Jw (Ja2 (l:=[.tmp 4]) V210 (Jp2 R R) R ?_)))
 cases h
 exact⟨K29,R,(hE.stp (S9.tr (S11.tr (S18.tr S30))) R R)⟩
 rintro _ w4 ⟨K5,rfl,S6,rfl⟩
 have h:=hK2
 dsimp only[aft]at h
 refine Jp (Je3 R (Ju (Ja2 (l:=[.tmp 4]) V210 (Jp2 R R) R ?_)))
 cases h
 exact⟨K5,R,(hE.stp S6 R R)⟩
theorem sj {w:World}{κ:Col}{af ab ae aa ac ad}{p0:Parity}(g0_0_0:Rd (Rp.int .i64) κ w 0 af ab p0.Arena.Owner) (g0_0_1:Rd (Rp.sl (Rp.int .i64)) κ w 0 ae aa p0.Arena.Next) (g0_1:Rd (Rp.int .i64) κ w 0 ac ad p0.Prio){r:(List Int)}(h:lC p0=some r):Ret Tryz.prog 199 [.agg #[.slice af p0.Arena.Owner.length ab,.slice ae p0.Arena.Next.length aa,.slice ac p0.Prio.length ad]] w (λv w'=>∃(κ':Col) (ra0:Option Addr) (ru0:Nat),v= .slice ra0 r.length ru0/\Ent κ w κ' w'/\Oc E6 2 κ' w' 2 ra0 ru0 r):=by
 unfold lC at h
 refine Ret.enter F199 R N199 R ?_
 dsimp only[envOf]
 have hE:=Ent.refl κ w
 refine Je [1,2] R (Jf1 (κ:=κ) 2 R R R R R R R λb1 w1 K2 S3 f4=>⟨tv,Jb 1 R (Je [2,1,2,1,2] R (Jd3 R U108 R Z29 (Jb3 R I29 (f4.ld 2 R R) (Jf R (Je2 U29 R R) (Ob h λx6 hx6 h=>Jh R R R C238 (rI (κ:=Mk K2) hx6) ?_)))))⟩)
 rintro _ w5 ⟨k6,ah,ai,rfl,e7,f8⟩
 obtain⟨K9,S10,m11⟩:=Ji e7 3 R
 refine⟨tv,Jb 1 R (Ju (Ja2 (l:=[.tmp 2]) V199 (Jp2 R R) R ?_))⟩
 cases h
 exact⟨(λb=>ren [(5,2)] (K9 b)),ah,ai,R,((hE.stp (S3.tr S10) R R).map (ren [(5,2)]) R R),((f8.mx (bH _) m11 R (R:3+2=5)).map (ren [(5,2)]) R R)⟩
theorem rS {w:World}{κ:Col}{aa ak ad af ai ae ac ab aj ah}{p0:l7Game}{a1 u1}{p1:(List Bool)}(g0_0:Rd (Rp.int .i64) κ w 0 aa ak p0.owner) (g0_1:Rd (Rp.int .i64) κ w 0 ad af p0.prio) (g0_2:Rd (Rp.sl (Rp.int .i64)) κ w 0 ai ae p0.next) (g0_3:Rd (Rp.sl (Rp.int .i64)) κ w 0 ac ab p0.prev) (g0_4:Rd (Rp.int .i64) κ w 0 aj ah p0.pick) (g1:Rd Rp.bool κ w 0 a1 u1 p1){r:Int}(h:mB p0 p1=some r):Ret Tryz.prog 240 [.agg #[.slice aa p0.owner.length ak,.slice ad p0.prio.length af,.slice ai p0.next.length ae,.slice ac p0.prev.length ab,.slice aj p0.pick.length ah],.slice a1 p1.length u1] w (λv w'=>∃(κ':Col),v=vi r/\Ent κ w κ' w'):=by
 unfold mB at h
 refine Ret.enter F240 R N240 R ?_
 dsimp only[envOf]
 have hE:=Ent.refl κ w
 refine Je [1,2] R (Jf1 (κ:=κ) 2 R R R R R R R λb2 w1 K2 S3 f4=>⟨tv,Jb 1 R (Je3 R (Jq (Je3 R ?_)))⟩)
 have hN5:(p1.length:Int)<=9223372036854775807:=g1.len_le
 refine Ob h λq2 hq7 hK6=>?_
 clear h
 refine Jx1 (λL w'=>∃κ' s3,L=[(5,vi s3)]/\Stp [] K2 w1 κ' w'/\q2=t9 s3) ?_ ?_
 refine Jv (Jy1 (λk L w'=>∃κ' v6 s1,L=[(1,.slice a1 p1.length u1),(2,.pointer (some ⟨b2,0,none⟩)),(5,vi s1),(6,vi v6)]/\Stp [] K2 w1 κ' w'/\0<=v6/\vH ((p1.length:Int)-v6)=k/\cntM (jl p0 p1) k v6 s1=some q2) ⟨_,_,⟨K2,0,((-1):Int),R,Jj3,(by decide),(by simp),hq7⟩,(KM R)⟩ ?_)
 rintro k _ w11 ⟨K12,v6,s1,rfl,S13,hj5,hJ5,h⟩
 rcases k with _ | k
 have hk14:=h;obtain⟨o5,h⟩:=bO (t9 (vF s1):Int⊕((Int)⊕(Int)))
 have hc5:decide (v6<(p1.length:Int))=false:=Jo2 (by omega)
 refine Jq (Jg3 [2,2,2,2] 2 R (Jf R (Je2 U193 R R) (Jb 1 R (Jw2 R hc5 (Jc1 (Jt (Jt ?_)))))))
 cases h
 have h:=hk14
 refine Jb1 ?_
 cases h
 exact Jw1 _ ⟨K12,(s1:Int),R,S13.wk R,R⟩ (KM R)
 obtain⟨o5,h,hk14⟩:=BI h;unfold jl at h
 have hc5:decide (v6<(p1.length:Int))=true:=Jn2 (by omega)
 refine Jq (Jg3 [2,2,2,2] 2 R (Jf R (Je2 U193 R R) (Jb 1 R (Jv2 R hc5 (Js (Jp (Jq (Jv (Jg3 [2,2,2,1] 2 R (Ob h λx15 hx15 h=>Jc3 R g1 hx15 U193 Z4 (Jb3 R I4 ((g1.stp (S3.tr S13) R R).gBool hx15) (Jd (Ob h λq4 h hK16=>Jx1 (λL w'=>∃κ',L=[(1,.slice a1 p1.length u1),(2,.pointer (some ⟨b2,0,none⟩)),(5,vi q4),(6,vi v6)]/\Stp [] K12 w11 κ' w') ?_ ?_)))))))))))))
 revert h
 cases ht20:x15
 refine JF λh=>Jy R (Js ?_)
 cases h
 exact Jw1 _ ⟨K12,R,Jj3⟩ (KM R)
 refine JT λh=>Jx R (Jh3 [2,2,1,2,2,1,1,2] 1 R (Jd3 R U191 R Z29 (Jb3 R I29 ((f4.stp S13 R R).ld 1 R R) (Jn 1 R (Ob h λx21 hx21 h=>Jc3 R g0_1 hx21 U29 Z2 (Jb3 R I2 ((g0_1.stp (S3.tr S13) R R).gInt hx21) (Ob h λx23 hx23 h=>Jh R R R C159 (km (κ:=Mk K12) hx23) ?_)))))))
 rintro _ w23 ⟨k24,rfl,e25⟩
 obtain⟨K26,S27,m28⟩:=Ji e25 3 R
 refine⟨tv,Jc 1 R ?_⟩
 cases h
 exact Jw1 _ ⟨K26,R,S27.wk R⟩ (KM R)
 rintro _ w17 ⟨K18,rfl,S19⟩
 have h:=hK16
 refine Jz (Jp (Jf3 R ?_))
 have hw5:t5 .i64 (v6+1)=v6+1:=wr1 hj5 (Jm2 hc5) hN5
 rw[hw5]
 have hc5:=Jm2 hc5
 cases h
 exact Jz1 λa ha=>⟨k,_,Ja3 _,⟨K18,v6+1,(q4:Int),R,(S13.tr S19).wk R,by omega,by omega,hk14⟩,(ha.mm R)⟩
 rintro _ w8 ⟨K9,s3,rfl,S10,rfl⟩
 have h:=hK6
 dsimp only[aft]at h
 refine Jp (Je3 R (Ju (Ja2 (l:=[.tmp 4]) V240 (Jp2 R R) R ?_)))
 cases h
 exact⟨K9,R,(hE.stp (S3.tr S10) R R)⟩
theorem qw {w:World}{κ:Col}{af ab ae aa ac ad}{p0:Parity}{a1 u1}{p1:(List Int)}(g0_0_0:Rd (Rp.int .i64) κ w 0 af ab p0.Arena.Owner) (g0_0_1:Rd (Rp.sl (Rp.int .i64)) κ w 0 ae aa p0.Arena.Next) (g0_1:Rd (Rp.int .i64) κ w 0 ac ad p0.Prio) (g1:Rd (Rp.int .i64) κ w 0 a1 u1 p1){r:Bool}(h:j7 p0 p1=some r):Ret Tryz.prog 239 [.agg #[.slice af p0.Arena.Owner.length ab,.slice ae p0.Arena.Next.length aa,.slice ac p0.Prio.length ad],.slice a1 p1.length u1] w (λv w'=>∃(κ':Col),v= .bool r/\Ent κ w κ' w'):=by
 unfold j7 at h
 refine Ret.enter F239 R N239 R ?_
 dsimp only[envOf]
 have hE:=Ent.refl κ w
 refine Je [1,2] R (Jf1 (κ:=κ) 2 R R R R R R R λb2 w1 K2 S3 f4=>⟨tv,Jb 1 R (Jq (Jg3 [2,2,2,1,2,2] 1 R (Jf R (Je2 U29 R R) (Jd3 R U108 R Z29 (Jb3 R I29 (f4.ld 2 R R) (Jf R (Je2 U29 R R) (Jb 1 R ?_)))))))⟩)
 revert h
 cases ht5:((p1.length:Int) !=(p0.Prio.length:Int))
 refine JF λh=>Jy R (Js (Jp (Jq (Je3 R ?_))))
 have hN7:(p1.length:Int)<=9223372036854775807:=g1.len_le
 refine Ob h λq2 hq9 hK8=>?_
 clear h
 refine Jx1 (λL w'=>∃κ',L=[]/\Stp [] K2 w1 κ' w'/\q2=t9 ()) ?_ ?_
 refine Jv (Jy1 (λk L w'=>∃κ' v5,L=[(1,.slice a1 p1.length u1),(2,.pointer (some ⟨b2,0,none⟩)),(5,vi v5)]/\Stp [] K2 w1 κ' w'/\0<=v5/\vH ((p1.length:Int)-v5)=k/\cntM (gr p0 p1) k v5 ()=some q2) ⟨_,_,⟨K2,0,R,Jj3,(by decide),(by simp),hq9⟩,(KM R)⟩ ?_)
 rintro k _ w13 ⟨K14,v5,rfl,S15,hj7,hJ7,h⟩
 rcases k with _ | k
 have hk16:=h;obtain⟨o7,h⟩:=bO (t9 (vF ()):Bool⊕((Unit)⊕(Unit)))
 have hc7:decide (v5<(p1.length:Int))=false:=Jo2 (by omega)
 refine Jq (Jg3 [2,2,2,2] 2 R (Jf R (Je2 U29 R R) (Jb 1 R (Jw2 R hc7 (Jc1 (Jt (Jt ?_)))))))
 cases h
 have h:=hk16
 refine Jb1 ?_
 cases h
 exact Jw1 _ ⟨K14,R,S15.wk R,R⟩ KN
 obtain⟨o7,h,hk16⟩:=BI h;unfold gr at h
 have hc7:decide (v5<(p1.length:Int))=true:=Jn2 (by omega)
 refine Jq (Jg3 [2,2,2,2] 2 R (Jf R (Je2 U29 R R) (Jb 1 R (Jv2 R hc7 (Js (Jp (Jq (Jv (Jq (Js1 (κ:=K14) [0,2] none [(0,2),(1,2),(2,2),(3,0),(4,2),(5,2),(6,2),(7,2),(9,2),(12,2),(13,2),(14,2),(8,0),(10,2),(11,0),(15,0),(16,1),(17,2),(18,2)] [] (by kernel_rfl) (by kernel_rfl) λw18 S17=>Jn 2 R (Ob h λx20 hx20 h=>Jc3 R g1 hx20 U29 Z2 ?_)))))))))))
 have f19:=g1.stp (S3.tr (S15.tr S17)) R R
 refine Jg R (Jc2 I2 R R (hvC (f19.gInt hx20) R)) (Jn 2 R (Ob h λp36 h hK20=>Ju1 [(6,2),(7,2),(9,2),(12,2),(13,2),(14,2),(8,0),(10,2),(11,0),(15,0),(16,1),(17,2),(18,2)] [] (λL w'=>L=[(1,.slice a1 p1.length u1),(2,.pointer (some ⟨b2,0,none⟩)),(5,vi v5),(36,.bool p36)]/\∃κ',Stp [] K14 w18 κ' w') (Cl.refl _ _ _) ?_ ?_))
 revert h
 cases ht21:(x20 !=(-1))
 refine JF λh=>Jn 6 R (Je1 R R R R (Jn 1 R (Je1 R R R R (Je1 R R R R (Jd1 R R R R (Jn 2 R ?_))))))
 cases h
 exact Jv1 _ (Cl.refl _ _ _) ⟨R,_,Jj3⟩ (KM R)
 refine JT λh=>Jd3 R U108 R Z104 (Jd3 R U104 R Z26 (Jn 3 R (Ob h λx32 hx32 h=>Jc3 R f19 hx32 U29 Z2 (Jg R (Jc2 I26 R R (hvC ((f4.stp (S15.tr S17) R R).ld 1 R R) R)) (Ob h λx28 hx28 h=>Jc3 R g0_0_1 hx28 U26 Z29 ?_)))))
 obtain⟨ax28,ux28,f24,hl25⟩:=(g0_0_1.stp (S3.tr (S15.tr S17)) R R).gSl hx28
 refine Jg R (Jc2 I29 R R (hvC hl25 R)) (Jg R (Jc2 I2 R R (hvC (f19.gInt hx32) R)) (Ob h λx34 hx34 h=>Jh R R R C252 (pP (κ:=Mk K14) (Ji3 f24) hx34) ?_))
 rintro _ w26 ⟨k27,rfl,e28⟩
 obtain⟨K29,S30,m31⟩:=Ji e28 3 R
 refine⟨(S30.cl R),Jn 2 R ?_⟩
 cases h
 exact Jv1 _ (S30.cl R) ⟨R,_,S30.wk R⟩ (KM R)
 rintro _ w33 _ ⟨rfl,K34,S35⟩
 have h:=hK20
 refine Jt1 (Jd ?_)
 revert h
 cases ht36:p36
 refine JF λh=>Jy R (Js (Jz (Jp (Jf3 R ?_))))
 have hw7:t5 .i64 (v5+1)=v5+1:=wr1 hj7 (Jm2 hc7) hN7
 rw[hw7]
 have hc7:=Jm2 hc7
 cases h
 exact Jz1 λa ha=>⟨k,_,Ja3 _,⟨K34,v5+1,R,(S15.tr (S17.tr S35)).wk R,by omega,by omega,hk16⟩,(ha.mm R)⟩
 refine JT λh=>Jx R (Je3 R (Ju (Ja1 (Jw (Jw ?_)))))
 cases h
 obtain rfl:=Option.some.inj hk16
 have h:=hK8
 dsimp only[aft]at h
 refine Ja1 (Jq2 (Jw (Ja2 (l:=[.tmp 4]) V239 (Jp2 R R) R ?_)))
 cases h
 exact⟨K34,R,(hE.stp (S3.tr (S15.tr (S17.tr S35))) R R)⟩
 rintro _ w10 ⟨K11,rfl,S12,rfl⟩
 have h:=hK8
 dsimp only[aft]at h
 refine Jp (Je3 R (Ju (Ja2 (l:=[.tmp 4]) V239 (Jp2 R R) R ?_)))
 cases h
 exact⟨K11,R,(hE.stp (S3.tr S12) R R)⟩
 refine JT λh=>Jx R (Je3 R (Ju (Jw (Ja2 (l:=[.tmp 4]) V239 (Jp2 R R) R ?_))))
 cases h
 exact⟨K2,R,(hE.stp S3 R R)⟩
theorem dV {w:World}{κ:Col}{a0 u0}{p0:(List Int)}{c1_0:Int}{b1_0}(g0:Rd (Rp.int .i64) κ w 0 a0 u0 p0) (gb1_0:Bc κ w 0 b1_0 2 [vi c1_0]){r:Int}(h:cb p0 c1_0=some r):Ret Tryz.prog 91 [.slice a0 p0.length u0,.func (.func 112) #[] #[.pointer (some ⟨b1_0,0,none⟩)]] w (λv w'=>∃(κ':Col),v=vi r/\Ent κ w κ' w'):=by
 unfold cb at h
 refine Ret.enter F91 R N91 R ?_
 dsimp only[envOf]
 have hE:=Ent.refl κ w
 refine Je3 R (Jq (Jg3 [2,2,2] 1 R (Jf R (Je2 U29 R R) (Jb 1 R ?_))))
 have hN1:(p0.length:Int)<=9223372036854775807:=g0.len_le
 refine Ob h λq2 hq3 hK2=>?_
 clear h
 refine Jx1 (λL w'=>∃κ',L=[(1,.func (.func 112) #[] #[.pointer (some ⟨b1_0,0,none⟩)])]/\Stp [] κ w κ' w'/\q2=t9 ()) ?_ ?_
 refine Jv (Jy1 (λk L w'=>∃κ' v8,L=[(0,.slice a0 p0.length u0),(1,.func (.func 112) #[] #[.pointer (some ⟨b1_0,0,none⟩)]),(7,vi (p0.length:Int)),(8,vi v8)]/\Stp [] κ w κ' w'/\0<=v8/\vH ((p0.length:Int)-v8)=k/\cntM (bY p0 c1_0) k v8 ()=some q2) ⟨_,_,⟨κ,0,R,Jj3,(by decide),(by simp),hq3⟩,(KM R)⟩ ?_)
 rintro k _ w7 ⟨K8,v8,rfl,S9,hj1,hJ1,h⟩
 rcases k with _ | k
 have hk10:=h;obtain⟨o1,h⟩:=bO (t9 (vF ()):Int⊕((Unit)⊕(Unit)))
 have hc1:decide (v8<(p0.length:Int))=false:=Jo2 (by omega)
 refine Je3 R (Jq (Jw2 R hc1 (Jc1 (Jt (Jt ?_)))))
 cases h
 have h:=hk10
 refine Jb1 ?_
 cases h
 exact Jw1 _ ⟨K8,R,S9.wk R,R⟩ (KM R)
 obtain⟨o1,h,hk10⟩:=BI h;unfold bY at h
 have hc1:decide (v8<(p0.length:Int))=true:=Jn2 (by omega)
 refine Je3 R (Jq (Jv2 R hc1 (Js (Jp (Jq (Jv (Je3 R (Jg3 [2,2,2,2,1,1] 3 R (Ob h λx14 hx14 h=>Jc3 R g0 hx14 U29 Z2 (Jb3 R I2 ((g0.stp S9 R R).gInt hx14) (Ob h λx16 hx16 h=>WO.callV R R R R R R R R C112 (mG (κ:=Mk K8) ((gb1_0.stp S9 R R).map (mp [] 0) R R) hx16) ?_)))))))))))
 rintro _ w13 ⟨k14,rfl,e15⟩
 obtain⟨K16,S17,m18⟩:=Ji e15 2 R
 refine⟨tv,Jd ?_⟩
 revert h
 cases ht20:x16
 refine JF λh=>Jy R (Js (Jz (Jp (Jf3 R ?_))))
 have hw1:t5 .i64 (v8+1)=v8+1:=wr1 hj1 (Jm2 hc1) hN1
 rw[hw1]
 have hc1:=Jm2 hc1
 cases h
 exact Jz1 λa ha=>⟨k,_,Ja3 _,⟨K16,v8+1,R,(S9.tr S17).wk R,by omega,by omega,hk10⟩,(ha.mm R)⟩
 refine JT λh=>Jx R (Je3 R (Ju (Ja1 (Jw (Jw ?_)))))
 cases h
 obtain rfl:=Option.some.inj hk10
 have h:=hK2
 dsimp only[aft]at h
 refine Ja1 (Jq2 (Jw (Ja2 (l:=[.tmp 4]) V91 (Jp2 R R) R ?_)))
 cases h
 exact⟨K16,R,(hE.stp (S9.tr S17) R R)⟩
 rintro _ w4 ⟨K5,rfl,S6,rfl⟩
 have h:=hK2
 dsimp only[aft]at h
 refine Jp (Je3 R (Ju (Ja2 (l:=[.tmp 4]) V91 (Jp2 R R) R ?_)))
 cases h
 exact⟨K5,R,(hE.stp S6 R R)⟩
theorem lc {w:World}{κ:Col}{p0:Sig}{be bb aQ aY}{p1:Det}(g1_0:Rd (Rp.sl (Rp.int .i64)) κ w 0 be bb p1.Next) (g1_1:Rd Pair.rp κ w 0 aQ aY p1.Pairs){r:Arena×(List Pair)}(h:dX p0 p1=some r):Ret Tryz.prog 78 [.agg #[vi p0.In,vi p0.Out],.agg #[.slice be p1.Next.length bb,.slice aQ p1.Pairs.length aY]] w (λv w'=>∃(κ':Col) (ra0:Option Addr) (ru0:Nat) (ra1:Option Addr) (ru1:Nat) (ra2:Option Addr) (ru2:Nat),v= .tuple #[.agg #[.slice ra0 r.1.Owner.length ru0,.slice ra1 r.1.Next.length ru1],.slice ra2 r.2.length ru2]/\Ent κ w κ' w'/\Oc E6 2 κ' w' 2 ra0 ru0 r.1.Owner/\Oc (Ep.own E6 2) 29 κ' w' 3 ra1 ru1 r.1.Next/\Oc Pair.ep154 154 κ' w' 4 ra2 ru2 r.2):=by
 unfold dX at h
 refine Ret.enter F78 R N78 R ?_
 dsimp only[envOf]
 have hE:=Ent.refl κ w
 refine Je [1,1,1,2] R (Jf1 (κ:=κ) 2 R R R R R R R λb2 w1 K2 S3 f4=>⟨tv,Jf1 (κ:=K2) 3 R R R R R R R λb3 w5 K6 S7 f8=>⟨tv,Jg1 (κ:=K6) 4 R R R R R X104 R λb4 w9 K10 S11 f12=>⟨tv,Jb 1 R (Je [2,1,1] R (Jf R (bI (parts:=[]) (cells:=[.slice none 0 0,.slice none 0 0]) R R (by kernel_rfl)) (Jg1 (κ:=K10) 5 R R R R R X104 R λb6 w13 K14 S15 f16=>⟨tv,Jj1 (κ:=K14) 5 (vc:=[.slice none 0 0,.slice none 0 0]) R R R R R R R Z104 R R f16 R λw17 S18 f19=>⟨tv,Jd (Jq (Js1 (κ:=K14) [2,3] none [(0,2),(1,0),(2,2),(3,0),(4,1),(5,2),(6,2)] [] (by kernel_rfl) (by kernel_rfl) λw21 S20=>Jd3 R U100 R Z26 ?_))⟩⟩)))⟩⟩⟩)
 have f22:=f8.stp (S11.tr (S15.tr (S18.tr S20))) R R
 refine Jg R (Jc2 I26 R R (hvC (f22.ld 0 R R) R)) (Jf R (Je2 U26 R R) ?_)
 have f23:=f4.stp (S7.tr (S11.tr (S15.tr (S18.tr S20)))) R R
 refine Jg R (Jd2 (cs:=[vi p0.In,vi p0.Out]) I25 Z25 R R R (haC f23.cells R)) (Ob h λx24 hx24 h=>Jh R R R C52 (gX (κ:=Mk K14) (p0:=p0) hx24) ?_)
 rintro _ w24 ⟨k25,rfl,e26⟩
 obtain⟨K27,S28,m29⟩:=Ji e26 6 R
 refine⟨(S28.cl R),Jn 2 R (Jt1 (Jd (Jq (Je3 R ?_))))⟩
 have hN31:(p1.Next.length:Int)<=9223372036854775807:=g1_0.len_le
 refine Ob h λq2 hq33 hK32=>?_
 clear h
 refine Jx1 (λL w'=>∃κ',∃s3:(List Int)×(List (List Int)),∃aO aF aH ax,L=[(2,.pointer (some ⟨b2,0,none⟩)),(3,.pointer (some ⟨b3,0,none⟩)),(4,.pointer (some ⟨b4,0,none⟩)),(6,.pointer (some ⟨b6,0,none⟩)),(7,vi (p1.Next.length:Int)),(8,vi x24)]/\Stp [5,8,9,10,12] K27 w24 κ' w'/\Oc E6 2 κ' w' 8 aO aF s3.1/\Oc (Ep.own E6 2) 29 κ' w' 9 aH ax s3.2/\Bc κ' w' 5 b6 104 [.slice aO s3.1.length aF,.slice aH s3.2.length ax]/\q2=t9 s3) ?_ ?_
 refine Jv (Jy1 (λk L w'=>∃κ' v26,∃s1:(List Int)×(List (List Int)),∃ay ap ah ai,L=[(2,.pointer (some ⟨b2,0,none⟩)),(3,.pointer (some ⟨b3,0,none⟩)),(4,.pointer (some ⟨b4,0,none⟩)),(6,.pointer (some ⟨b6,0,none⟩)),(7,vi (p1.Next.length:Int)),(8,vi x24),(25,vi (p1.Next.length:Int)),(26,vi v26)]/\Stp [5,8,9,10,12] K27 w24 κ' w'/\Oc E6 2 κ' w' 8 ay ap s1.1/\Oc (Ep.own E6 2) 29 κ' w' 9 ah ai s1.2/\Bc κ' w' 5 b6 104 [.slice ay s1.1.length ap,.slice ah s1.2.length ai]/\0<=v26/\vH ((p1.Next.length:Int)-v26)=k/\cntM (dM p1 x24) k v26 s1=some q2) ⟨_,_,⟨K27,0,((([]:List Int):(List Int)),(([]:List (List Int)):(List (List Int)))),none,0,none,0,R,Jj3,Ow.nil,Ow.nil,(f19.stp (S20.tr S28) R R),(by decide),(by simp),hq33⟩,(KM R)⟩ ?_)
 rintro k _ w40 ⟨K41,v26,s1,ay,ap,ah,ai,rfl,S42,f43,f44,f45,hj31,hJ31,h⟩
 rcases k with _ | k
 have hk47:=h;obtain⟨o31,h⟩:=bO (t9 (vF s1):(Arena×(List Pair))⊕(((List Int)×(List (List Int)))⊕((List Int)×(List (List Int)))))
 have hc31:decide (v26<(p1.Next.length:Int))=false:=Jo2 (by omega)
 refine Je3 R (Jq (Jw2 R hc31 (Jc1 (Jt (Jt ?_)))))
 cases h
 have h:=hk47
 refine Jb1 ?_
 cases h
 exact Jw1 _ ⟨K41,((s1.1:(List Int)),(s1.2:(List (List Int)))),ay,ap,ah,ai,R,S42.wk R,f43,f44,f45,R⟩ (KM R)
 obtain⟨o31,h,hk47⟩:=BI h;unfold dM at h
 have hc31:decide (v26<(p1.Next.length:Int))=true:=Jn2 (by omega)
 refine Je3 R (Jq (Jv2 R hc31 (Js (Jp (Jq (Jv (Je3 R (Je [1,2] R (Jo1 (κ:=K41) (E:=E6) 10 R R R R R Y29 Tryzinfo2 R λbf bq w48 K49 S50 f51=>⟨tv,Jb 1 R (Jq (Je3 R (Ob h λ_ hr52 h=>?_)))⟩)))))))))
 have hN52:=iF hr52
 refine Ob h λq5 hq54 hK53=>?_
 clear h
 refine Jx1 (λL w'=>∃κ',∃s6:(List Int),∃al ae,L=[(2,.pointer (some ⟨b2,0,none⟩)),(3,.pointer (some ⟨b3,0,none⟩)),(4,.pointer (some ⟨b4,0,none⟩)),(6,.pointer (some ⟨b6,0,none⟩)),(7,vi (p1.Next.length:Int)),(8,vi x24),(10,.slice al s6.length ae),(25,vi (p1.Next.length:Int)),(26,vi v26)]/\Stp [10] K49 w48 κ' w'/\Oc E6 2 κ' w' 10 al ae s6/\q5=t9 s6) ?_ ?_
 refine Jv (Jy1 (λk L w'=>∃κ' v31,∃s4:(List Int),∃au aB,L=[(2,.pointer (some ⟨b2,0,none⟩)),(3,.pointer (some ⟨b3,0,none⟩)),(4,.pointer (some ⟨b4,0,none⟩)),(6,.pointer (some ⟨b6,0,none⟩)),(7,vi (p1.Next.length:Int)),(8,vi x24),(9,vi v26),(10,.slice au s4.length aB),(25,vi (p1.Next.length:Int)),(26,vi v26),(30,vi x24),(31,vi v31)]/\Stp [10] K49 w48 κ' w'/\Oc E6 2 κ' w' 10 au aB s4/\0<=v31/\vH (x24-v31)=k/\cntM (dx p1 x24 v26) k v31 s4=some q5) ⟨_,_,⟨K49,0,(([]:List Int):(List Int)),bf,bq,R,Jj3,f51,(by decide),(by simp),hq54⟩,(KM R)⟩ ?_)
 rintro k _ w59 ⟨K60,v31,s4,au,aB,rfl,S61,f62,hj52,hJ52,h⟩
 rcases k with _ | k
 have hk63:=h;obtain⟨o52,h⟩:=bO (t9 (vF s4):(Arena×(List Pair))⊕(((List Int))⊕((List Int))))
 have hc52:decide (v31<x24)=false:=Jo2 (by omega)
 refine Je3 R (Jq (Jw2 R hc52 (Jc1 (Jt (Jt ?_)))))
 cases h
 have h:=hk63
 refine Jb1 ?_
 cases h
 exact Jw1 _ ⟨K60,(s4:(List Int)),au,aB,R,S61.wk R,f62,R⟩ (KM R)
 obtain⟨o52,h,hk63⟩:=BI h;unfold dx at h
 have hc52:decide (v31<x24)=true:=Jn2 (by omega)
 refine Je3 R (Jq (Jv2 R hc52 (Js (Jp (Jq (Jv (Je3 R (Jh3 [2,2,2,2,2,2,2,2,1,1,2] 8 R (Jn1 (κ:=K60) (E:=E6) 11 [] (parts:=[(0,.tmp 41)]) (cells:=[vi (IntKind.i64.wrap ((IntKind.i64.wrap ((p1.Next.length:Int)+(IntKind.i64.wrap (v26 * x24))))+v31))]) (xs:=([(IntKind.i64.wrap ((IntKind.i64.wrap ((p1.Next.length:Int)+(IntKind.i64.wrap (v26 * x24))))+v31))]:List Int)) R R R R R R Y29 Tryzinfo2 R R R R R R R R R R ⟨[vi (IntKind.i64.wrap ((IntKind.i64.wrap ((p1.Next.length:Int)+(IntKind.i64.wrap (v26 * x24))))+v31))],[],Zl K60 w59 [],Zl K60 w59 [],R,Zl.sp (l1:=[]) (l2:=[]) R,Zl.sr (l1:=[]) (l2:=[]),R,R⟩ λbx bu w64 K65 S66 f67=>⟨tv,Ob h λx43 hx43 h=>Jm1 (κ:=K65) (E:=E6) 10 [] R R R R R R R R R Y29 Tryzinfo2 R R R R (f62.stp S66 R R) (Sl.srcP (bR _) f67.rdc) bJ hx43 R λbp bo w69 K70 S71 f72=>⟨tv,Jc 1 R (Jz (Jp (Jf3 R ?_)))⟩⟩)))))))))
 have hw52:t5 .i64 (v31+1)=v31+1:=wr1 hj52 (Jm2 hc52) hN52
 rw[hw52]
 have hc52:=Jm2 hc52
 cases h
 exact Jz1 λa ha=>⟨k,_,Ja3 _,⟨K70,v31+1,(x43:(List Int)),bp,bo,R,(S61.tr (S66.tr S71)).wk R,f72,by omega,by omega,hk63⟩,(ha.mm R)⟩
 rintro _ w55 ⟨K56,s6,al,ae,rfl,S57,f58,rfl⟩
 have h:=hK53
 dsimp only[aft]at h
 refine Jp (Je [2,1,1,1,2,1] R (Jd3 R U104 R Z29 ?_))
 have f73:=f45.stp (S50.tr S57) R R
 refine Jb3 R I29 (f73.ld 0 R R) (Jn1 (κ:=K56) (E:=E6) 11 [] (parts:=[(0,.const (vi 1))]) (cells:=[vi 1]) (xs:=([1]:List Int)) R R R R R R Y29 Tryzinfo2 R R R R R R R R R R ⟨[vi 1],[],Zl K56 w55 [],Zl K56 w55 [],R,Zl.sp (l1:=[]) (l2:=[]) R,Zl.sr (l1:=[]) (l2:=[]),R,R⟩ λbB bC w74 K75 S76 f77=>⟨tv,Ob h λx48 hx48 h=>Jm1 (κ:=K75) (E:=E6) 8 [] R R R R R R R R R Y29 Tryzinfo2 R R R R (f43.stp (S50.tr (S57.tr S76)) R R) (Sl.srcP (bR _) f77.rdc) bJ hx48 R λaw aq w79 K80 S81 f82=>⟨tv,Jd3 R U104 R Z29 (Ji1 (κ:=K80) 5 (off:=0) (vc:=[.slice aw x48.length aq]) (cs':=[.slice aw x48.length aq,.slice ah s1.2.length ai]) R R R R R R R Z29 R R (f73.stp (S76.tr S81) R R) R R λw84 S85 f86=>⟨tv,Jd (Ja [2,1,2,1,1,2,1] R (Jd3 R U104 R Z26 (Jb3 R I26 (f86.ld 1 R R) (Jn 1 R (Jn1 (κ:=K80) (E:=(Ep.own E6 2)) 12 [10] (parts:=[(0,.tmp 52)]) (cells:=[.slice al s6.length ae]) (xs:=([s6]:List (List Int))) R R R R R R Y26 Tryzinfo29 R R R R R R R R R R ⟨[.slice al s6.length ae],[],Zl K80 w84 [10],Zl K80 w84 [],R,Zl.sp (l1:=[10]) (l2:=[]) R,Zl.sr (l1:=[10]) (l2:=[]),⟨_,_,R,(f58.stp (S76.tr (S81.tr S85)) R R)⟩,R⟩ λbs bF w88 K89 S90 f91=>⟨tv,Ob h λx54 hx54 h=>Jm1 (κ:=K89) (E:=(Ep.own E6 2)) 9 [12] R R R R R R R R R Y26 Tryzinfo29 R R R R (f44.stp (S50.tr (S57.tr (S76.tr (S81.tr (S85.tr S90))))) R R) f91.src (dc R) hx54 R λaV aR w93 K94 S95 f96=>⟨tv,Jd3 R U104 R Z26 (Ji1 (κ:=K94) 5 (off:=1) (vc:=[.slice aV x54.length aR]) (cs':=[.slice aw x48.length aq,.slice aV x54.length aR]) R R R R R R R Z26 R R (f86.stp (S90.tr S95) R R) R R λw98 S99 f100=>⟨tv,Jo (Jz (Jp (Jf3 R ?_)))⟩)⟩⟩)))))⟩)⟩⟩)
 have hw31:t5 .i64 (v26+1)=v26+1:=wr1 hj31 (Jm2 hc31) hN31
 rw[hw31]
 have hc31:=Jm2 hc31
 cases h
 exact Jz1 λa ha=>⟨k,_,Ja3 _,⟨K94,v26+1,((x48:(List Int)),(x54:(List (List Int)))),aw,aq,aV,aR,R,(S42.tr (S50.tr (S57.tr (S76.tr (S81.tr (S85.tr (S90.tr (S95.tr S99)))))))).wk R,(f82.stp (S85.tr (S90.tr (S95.tr S99))) R R),(f96.stp S99 R R),f100,by omega,by omega,hk47⟩,(ha.mm R)⟩
 rintro _ w34 ⟨K35,s3,aO,aF,aH,ax,rfl,S36,f37,f38,f39,rfl⟩
 have h:=hK32
 dsimp only[aft]at h
 refine Jp (Jq (Je3 R ?_))
 have hN103:(p1.Next.length:Int)<=9223372036854775807:=g1_0.len_le
 refine Ob h λq8 hq105 hK104=>?_
 clear h
 refine Jx1 (λL w'=>∃κ',∃s9:(List Int)×(List (List Int)),∃ad ac ab aa,L=[(3,.pointer (some ⟨b3,0,none⟩)),(4,.pointer (some ⟨b4,0,none⟩)),(6,.pointer (some ⟨b6,0,none⟩))]/\Stp [5,8,9,10,13,17,18] K35 w34 κ' w'/\Oc E6 2 κ' w' 8 ad ac s9.1/\Oc (Ep.own E6 2) 29 κ' w' 9 ab aa s9.2/\Bc κ' w' 5 b6 104 [.slice ad s9.1.length ac,.slice ab s9.2.length aa]/\q8=t9 s9) ?_ ?_
 refine Jv (Jy1 (λk L w'=>∃κ' v58,∃s7:(List Int)×(List (List Int)),∃aj af ak an,L=[(2,.pointer (some ⟨b2,0,none⟩)),(3,.pointer (some ⟨b3,0,none⟩)),(4,.pointer (some ⟨b4,0,none⟩)),(6,.pointer (some ⟨b6,0,none⟩)),(8,vi x24),(57,vi (p1.Next.length:Int)),(58,vi v58)]/\Stp [5,8,9,10,13,17,18] K35 w34 κ' w'/\Oc E6 2 κ' w' 8 aj af s7.1/\Oc (Ep.own E6 2) 29 κ' w' 9 ak an s7.2/\Bc κ' w' 5 b6 104 [.slice aj s7.1.length af,.slice ak s7.2.length an]/\0<=v58/\vH ((p1.Next.length:Int)-v58)=k/\cntM (dJ p0 p1 x24) k v58 s7=some q8) ⟨_,_,⟨K35,0,((s3.1:(List Int)),(s3.2:(List (List Int)))),aO,aF,aH,ax,R,Jj3,f37,f38,f39,(by decide),(by simp),hq105⟩,(KM R)⟩ ?_)
 rintro k _ w112 ⟨K113,v58,s7,aj,af,ak,an,rfl,S114,f115,f116,f117,hj103,hJ103,h⟩
 rcases k with _ | k
 have hk118:=h;obtain⟨o103,h⟩:=bO (t9 (vF s7):(Arena×(List Pair))⊕(((List Int)×(List (List Int)))⊕((List Int)×(List (List Int)))))
 have hc103:decide (v58<(p1.Next.length:Int))=false:=Jo2 (by omega)
 refine Je3 R (Jq (Jw2 R hc103 (Jc1 (Jt (Jt ?_)))))
 cases h
 have h:=hk118
 refine Jb1 ?_
 cases h
 exact Jw1 _ ⟨K113,((s7.1:(List Int)),(s7.2:(List (List Int)))),aj,af,ak,an,R,S114.wk R,f115,f116,f117,R⟩ (KM R)
 obtain⟨o103,h,hk118⟩:=BI h;unfold dJ at h
 have hc103:decide (v58<(p1.Next.length:Int))=true:=Jn2 (by omega)
 refine Je3 R (Jq (Jv2 R hc103 (Js (Jp (Jq (Jv (Je3 R (Je3 R (Ob h λ_ hr119 h=>?_)))))))))
 have hN119:=iF hr119
 refine Ob h λq11 hq121 hK120=>?_
 clear h
 refine Jx1 (λL w'=>∃κ',∃s12:(List Int)×(List (List Int)),∃aC ar aJ aM,L=[(2,.pointer (some ⟨b2,0,none⟩)),(3,.pointer (some ⟨b3,0,none⟩)),(4,.pointer (some ⟨b4,0,none⟩)),(6,.pointer (some ⟨b6,0,none⟩)),(8,vi x24),(57,vi (p1.Next.length:Int)),(58,vi v58)]/\Stp [5,8,9,10,13,17,18] K113 w112 κ' w'/\Oc E6 2 κ' w' 8 aC ar s12.1/\Oc (Ep.own E6 2) 29 κ' w' 9 aJ aM s12.2/\Bc κ' w' 5 b6 104 [.slice aC s12.1.length ar,.slice aJ s12.2.length aM]/\q11=t9 s12) ?_ ?_
 refine Jv (Jy1 (λk L w'=>∃κ' v62,∃s10:(List Int)×(List (List Int)),∃av aA am ao,L=[(2,.pointer (some ⟨b2,0,none⟩)),(3,.pointer (some ⟨b3,0,none⟩)),(4,.pointer (some ⟨b4,0,none⟩)),(6,.pointer (some ⟨b6,0,none⟩)),(8,vi x24),(12,vi v58),(57,vi (p1.Next.length:Int)),(58,vi v58),(61,vi x24),(62,vi v62)]/\Stp [5,8,9,10,13,17,18] K113 w112 κ' w'/\Oc E6 2 κ' w' 8 av aA s10.1/\Oc (Ep.own E6 2) 29 κ' w' 9 am ao s10.2/\Bc κ' w' 5 b6 104 [.slice av s10.1.length aA,.slice am s10.2.length ao]/\0<=v62/\vH (x24-v62)=k/\cntM (dv p0 p1 x24 v58) k v62 s10=some q11) ⟨_,_,⟨K113,0,((s7.1:(List Int)),(s7.2:(List (List Int)))),aj,af,ak,an,R,Jj3,f115,f116,f117,(by decide),(by simp),hq121⟩,(KM R)⟩ ?_)
 rintro k _ w128 ⟨K129,v62,s10,av,aA,am,ao,rfl,S130,f131,f132,f133,hj119,hJ119,h⟩
 rcases k with _ | k
 have hk134:=h;obtain⟨o119,h⟩:=bO (t9 (vF s10):(Arena×(List Pair))⊕(((List Int)×(List (List Int)))⊕((List Int)×(List (List Int)))))
 have hc119:decide (v62<x24)=false:=Jo2 (by omega)
 refine Je3 R (Jq (Jw2 R hc119 (Jc1 (Jt (Jt ?_)))))
 cases h
 have h:=hk134
 refine Jb1 ?_
 cases h
 exact Jw1 _ ⟨K129,((s10.1:(List Int)),(s10.2:(List (List Int)))),av,aA,am,ao,R,S130.wk R,f131,f132,f133,R⟩ (KM R)
 obtain⟨o119,h,hk134⟩:=BI h;unfold dv at h
 have hc119:decide (v62<x24)=true:=Jn2 (by omega)
 refine Je3 R (Jq (Jv2 R hc119 (Js (Jp (Jq (Jv (Je3 R (Je [1,2] R (Jo1 (κ:=K129) (E:=E6) 10 R R R R R Y29 Tryzinfo2 R λbi bh w135 K136 S137 f138=>⟨tv,Jb 1 R (Jq (Je [2,1,2,2] R (Jd3 R U25 R Z2 (Jb3 R I2 ((f23.stp (S28.tr (S36.tr (S114.tr (S130.tr S137)))) R R).ld 1 R R) (Ob h λ_z68 hz68 h=>Jf R (qp R R R (sO hz68)) (Jb 1 R (Ob h λ_ hr140 h=>?_)))))))⟩)))))))))
 have hN140:=iF hr140
 refine Ob h λq14 hq142 hK141=>?_
 clear h
 refine Jx1 (λL w'=>∃κ',∃s15:(List Int),∃aS ba,L=[(2,.pointer (some ⟨b2,0,none⟩)),(3,.pointer (some ⟨b3,0,none⟩)),(4,.pointer (some ⟨b4,0,none⟩)),(6,.pointer (some ⟨b6,0,none⟩)),(8,vi x24),(12,vi v58),(14,.slice aS s15.length ba),(57,vi (p1.Next.length:Int)),(58,vi v58),(61,vi x24),(62,vi v62)]/\Stp [10] K136 w135 κ' w'/\Oc E6 2 κ' w' 10 aS ba s15/\q14=t9 s15) ?_ ?_
 refine Jv (Jy1 (λk L w'=>∃κ' v69,∃s13:(List Int),∃aE aK,L=[(2,.pointer (some ⟨b2,0,none⟩)),(3,.pointer (some ⟨b3,0,none⟩)),(4,.pointer (some ⟨b4,0,none⟩)),(6,.pointer (some ⟨b6,0,none⟩)),(8,vi x24),(12,vi v58),(13,vi v62),(14,.slice aE s13.length aK),(57,vi (p1.Next.length:Int)),(58,vi v58),(61,vi x24),(62,vi v62),(68,vi (IntKind.i64.wrap (1 * 2 ^ (min (vH p0.Out) (IntKind.bits IntKind.i64))))),(69,vi v69)]/\Stp [10] K136 w135 κ' w'/\Oc E6 2 κ' w' 10 aE aK s13/\0<=v69/\vH ((IntKind.i64.wrap (1 * 2 ^ (min (vH p0.Out) (IntKind.bits IntKind.i64))))-v69)=k/\cntM (dL p1 x24 v58 v62) k v69 s13=some q14) ⟨_,_,⟨K136,0,(([]:List Int):(List Int)),bi,bh,R,Jj3,f138,(by decide),(by simp),hq142⟩,(KM R)⟩ ?_)
 rintro k _ w147 ⟨K148,v69,s13,aE,aK,rfl,S149,f150,hj140,hJ140,h⟩
 rcases k with _ | k
 have hk151:=h;obtain⟨o140,h⟩:=bO (t9 (vF s13):(Arena×(List Pair))⊕(((List Int))⊕((List Int))))
 have hc140:decide (v69<(IntKind.i64.wrap (1 * 2 ^ (min (vH p0.Out) (IntKind.bits IntKind.i64)))))=false:=Jo2 (by omega)
 refine Je3 R (Jq (Jw2 R hc140 (Jc1 (Jt (Jt ?_)))))
 cases h
 have h:=hk151
 refine Jb1 ?_
 cases h
 exact Jw1 _ ⟨K148,(s13:(List Int)),aE,aK,R,S149.wk R,f150,R⟩ (KM R)
 obtain⟨o140,h,hk151⟩:=BI h;unfold dL at h
 have hc140:decide (v69<(IntKind.i64.wrap (1 * 2 ^ (min (vH p0.Out) (IntKind.bits IntKind.i64)))))=true:=Jn2 (by omega)
 refine Je3 R (Jq (Jv2 R hc140 (Js (Jp (Jq (Jv (Je3 R (Jh3 [2,2,1,2,2,1,2,2,2,2,2,2,1,1,1,2] 1 R (Jd3 R U100 R Z26 (Jb3 R I26 ((f22.stp (S28.tr (S36.tr (S114.tr (S130.tr (S137.tr S149))))) R R).ld 0 R R) (Jn 1 R (Ob h λx76 hx76 h=>Jc3 R g1_0 hx76 U26 Z29 ?_))))))))))))
 obtain⟨ax76,ux76,f154,hl155⟩:=(g1_0.stp (S3.tr (S7.tr (S11.tr (S15.tr (S18.tr (S20.tr (S28.tr (S36.tr (S114.tr (S130.tr (S137.tr S149))))))))))) R R).gSl hx76
 refine Jb3 R I29 hl155 (Jn 5 R (Ob h λx83 hx83 h=>Jc3 R f154 hx83 U29 Z2 (Jb3 R I2 (f154.gInt hx83) (Jn1 (κ:=K148) (E:=E6) 11 [] (parts:=[(0,.tmp 84)]) (cells:=[vi x83]) (xs:=([x83]:List Int)) R R R R R R Y29 Tryzinfo2 R R R R R R R R R R ⟨[vi x83],[],Zl K148 w147 [],Zl K148 w147 [],R,Zl.sp (l1:=[]) (l2:=[]) R,Zl.sr (l1:=[]) (l2:=[]),R,R⟩ λbz bD w156 K157 S158 f159=>⟨tv,Ob h λx86 hx86 h=>Jm1 (κ:=K157) (E:=E6) 10 [] R R R R R R R R R Y29 Tryzinfo2 R R R R (f150.stp S158 R R) (Sl.srcP (bR _) f159.rdc) bJ hx86 R λbg bm w161 K162 S163 f164=>⟨tv,Jc 1 R (Jz (Jp (Jf3 R ?_)))⟩⟩))))
 have hw140:t5 .i64 (v69+1)=v69+1:=wr1 hj140 (Jm2 hc140) hN140
 rw[hw140]
 have hc140:=Jm2 hc140
 cases h
 exact Jz1 λa ha=>⟨k,_,Ja3 _,⟨K162,v69+1,(x86:(List Int)),bg,bm,R,(S149.tr (S158.tr S163)).wk R,f164,by omega,by omega,hk151⟩,(ha.mm R)⟩
 rintro _ w143 ⟨K144,s15,aS,ba,rfl,S145,f146,rfl⟩
 have h:=hK141
 dsimp only[aft]at h
 refine Jp (Jg3 [2,1] 1 R (Ob h λx89 hx89 h=>Jh R R R C133 (gB (κ:=λb=>mp [(10,2)] 0 (K144 b)) (f146.map (mp [(10,2)] 0) R R) hx89) ?_))
 rintro _ w165 ⟨k166,rfl,e167,f168,hn169⟩
 obtain⟨K170,S171,m172⟩:=Ji e167 11 R
 refine⟨tv,Jd (Je [2,1,1,1,2,1] R (Jd3 R U104 R Z29 ?_))⟩
 have f175:=f133.stp (S137.tr (S145.tr S171)) R R
 refine Jb3 R I29 (f175.ld 0 R R) (Jn1 (κ:=K170) (E:=E6) 14 [] (parts:=[(0,.const (vi 0))]) (cells:=[vi 0]) (xs:=([0]:List Int)) R R R R R R Y29 Tryzinfo2 R R R R R R R R R R ⟨[vi 0],[],Zl K170 w165 [],Zl K170 w165 [],R,Zl.sp (l1:=[]) (l2:=[]) R,Zl.sr (l1:=[]) (l2:=[]),R,R⟩ λbv br w176 K177 S178 f179=>⟨tv,Ob h λx93 hx93 h=>Jm1 (κ:=K177) (E:=E6) 8 [] R R R R R R R R R Y29 Tryzinfo2 R R R R (f131.stp (S137.tr (S145.tr (S171.tr S178))) R R) (Sl.srcP (bR _) f179.rdc) bJ hx93 R λaG aN w181 K182 S183 f184=>⟨tv,Jd3 R U104 R Z29 (Ji1 (κ:=K182) 5 (off:=0) (vc:=[.slice aG x93.length aN]) (cs':=[.slice aG x93.length aN,.slice am s10.2.length ao]) R R R R R R R Z29 R R (f175.stp (S178.tr S183) R R) R R λw186 S187 f188=>⟨tv,Jd (Js1 (κ:=K182) [5] (some 7) [(0,2),(2,2),(1,0),(3,1),(4,1),(5,1),(6,2)] [(7,1)] (by kernel_rfl) (by kernel_rfl) λw190 S189=>Jd3 R U104 R Z26 (Jn 1 R ?_))⟩)⟩⟩)
 have f191:=f188.stp S189 R R
 refine Jg R (Jc2 I26 R R (hvC (f191.ld 1 R R) R)) (Ob h λx98 hx98 h=>Jh R R R C134 (Ret.cast (by simp only[(hn169),List.cons_append,List.nil_append]) (jG (κ:=λb=>mp [(13,2)] 0 (K182 b)) (((f168.mx (bH _) m172 R (R:11+2=13)).stp (S178.tr (S183.tr (S187.tr S189))) R R).map (mp [(13,2)] 0) R R) hx98)) ?_)
 rintro _ w193 ⟨k194,bd,bc,rfl,e195,f196⟩
 obtain⟨K197,S198,m199⟩:=Ji e195 15 R
 refine⟨(S198.cl R),Jn1 (κ:=K197) (E:=(Ep.own E6 2)) 18 [17] (parts:=[(0,.tmp 98)]) (cells:=[.slice bd x98.length bc]) (xs:=([x98]:List (List Int))) R R R R R R Y26 Tryzinfo29 R R R R R R R R R R ⟨[.slice bd x98.length bc],[],Zl K197 w193 [17],Zl K197 w193 [],R,Zl.sp (l1:=[17]) (l2:=[]) R,Zl.sr (l1:=[17]) (l2:=[]),⟨_,_,R,(f196.mx (bH _) m199 R (R:15+2=17))⟩,R⟩ λbw bt w202 K203 S204 f205=>⟨((S198.tr S204).cl R),Ob h λx100 hx100 h=>Jm1 (κ:=K203) (E:=(Ep.own E6 2)) 9 [18] R R R R R R R R R Y26 Tryzinfo29 R R R R (f132.stp (S137.tr (S145.tr (S171.tr (S178.tr (S183.tr (S187.tr (S189.tr (S198.tr S204)))))))) R R) f205.src (dc R) hx100 R λaT aW w207 K208 S209 f210=>⟨((S198.tr (S204.tr S209)).cl R),Jd3 R U104 R Z26 (Jt1 (Ji1 (κ:=K208) 5 (off:=1) (vc:=[.slice aT x100.length aW]) (cs':=[.slice aG x93.length aN,.slice aT x100.length aW]) R R R R R R R Z26 R R (f191.stp (S198.tr (S204.tr S209)) R R) R R λw212 S213 f214=>⟨tv,Jo (Jz (Jp (Jf3 R ?_)))⟩))⟩⟩⟩
 have hw119:t5 .i64 (v62+1)=v62+1:=wr1 hj119 (Jm2 hc119) hN119
 rw[hw119]
 have hc119:=Jm2 hc119
 cases h
 exact Jz1 λa ha=>⟨k,_,Ja3 _,⟨K208,v62+1,((x93:(List Int)),(x100:(List (List Int)))),aG,aN,aT,aW,R,(S130.tr (S137.tr (S145.tr (S171.tr (S178.tr (S183.tr (S187.tr (S189.tr (S198.tr (S204.tr (S209.tr S213))))))))))).wk R,(f184.stp (S187.tr (S189.tr (S198.tr (S204.tr (S209.tr S213))))) R R),(f210.stp S213 R R),f214,by omega,by omega,hk134⟩,(ha.mm R)⟩
 rintro _ w122 ⟨K123,s12,aC,ar,aJ,aM,rfl,S124,f125,f126,f127,rfl⟩
 have h:=hK120
 dsimp only[aft]at h
 refine Jz (Jp (Jf3 R ?_))
 have hw103:t5 .i64 (v58+1)=v58+1:=wr1 hj103 (Jm2 hc103) hN103
 rw[hw103]
 have hc103:=Jm2 hc103
 cases h
 exact Jz1 λa ha=>⟨k,_,Ja3 _,⟨K123,v58+1,((s12.1:(List Int)),(s12.2:(List (List Int)))),aC,ar,aJ,aM,R,(S114.tr S124).wk R,f125,f126,f127,by omega,by omega,hk118⟩,(ha.mm R)⟩
 rintro _ w106 ⟨K107,s9,ad,ac,ab,aa,rfl,S108,f109,f110,f111,rfl⟩
 have h:=hK104
 dsimp only[aft]at h
 refine Jp (Je [1,2] R (Jo1 (κ:=K107) (E:=Pair.ep154) 10 R R R R R Y98 Tryzinfo154 R λbn bj w217 K218 S219 f220=>⟨tv,Jb 1 R (Jq (Je [2,1,2,2] R (Jd3 R U100 R Z98 (Jb3 R I98 ((f22.stp (S28.tr (S36.tr (S108.tr S219))) R R).ld 1 R R) (Jf R (Je2 U98 R R) (Jb 1 R ?_))))))⟩))
 have hN222:(p1.Pairs.length:Int)<=9223372036854775807:=g1_1.len_le
 refine Ob h λq17 hq224 hK223=>?_
 clear h
 refine Jx1 (λL w'=>∃κ',∃s18:(List Pair),∃az aL,L=[(4,.pointer (some ⟨b4,0,none⟩)),(6,.pointer (some ⟨b6,0,none⟩)),(16,.slice az s18.length aL)]/\Stp [10,11,14,15,16] K218 w217 κ' w'/\Oc Pair.ep154 154 κ' w' 10 az aL s18/\q17=t9 s18) ?_ ?_
 refine Jv (Jy1 (λk L w'=>∃κ' v108,∃s16:(List Pair),∃aI aD,L=[(4,.pointer (some ⟨b4,0,none⟩)),(6,.pointer (some ⟨b6,0,none⟩)),(16,.slice aI s16.length aD),(106,.slice aQ p1.Pairs.length aY),(107,vi (p1.Pairs.length:Int)),(108,vi v108)]/\Stp [10,11,14,15,16] K218 w217 κ' w'/\Oc Pair.ep154 154 κ' w' 10 aI aD s16/\0<=v108/\vH ((p1.Pairs.length:Int)-v108)=k/\cntM (dd p1) k v108 s16=some q17) ⟨_,_,⟨K218,0,(([]:List Pair):(List Pair)),bn,bj,R,Jj3,f220,(by decide),(by simp),hq224⟩,(KM R)⟩ ?_)
 rintro k _ w229 ⟨K230,v108,s16,aI,aD,rfl,S231,f232,hj222,hJ222,h⟩
 rcases k with _ | k
 have hk233:=h;obtain⟨o222,h⟩:=bO (t9 (vF s16):(Arena×(List Pair))⊕(((List Pair))⊕((List Pair))))
 have hc222:decide (v108<(p1.Pairs.length:Int))=false:=Jo2 (by omega)
 refine Je3 R (Jq (Jw2 R hc222 (Jc1 (Jt (Jt ?_)))))
 cases h
 have h:=hk233
 refine Jb1 ?_
 cases h
 exact Jw1 _ ⟨K230,(s16:(List Pair)),aI,aD,R,S231.wk R,f232,R⟩ (KM R)
 obtain⟨o222,h,hk233⟩:=BI h;unfold dd at h
 have hc222:decide (v108<(p1.Pairs.length:Int))=true:=Jn2 (by omega)
 refine Je3 R (Jq (Jv2 R hc222 (Js (Jp (Jq (Jv (Je [2,1,1,1] R (Ob h λx110 hx110 h=>Jc3 R g1_1 hx110 U98 Z154 ?_))))))))
 obtain⟨cse235,hre235,hle235⟩:=((g1_1.stp (S3.tr (S7.tr (S11.tr (S15.tr (S18.tr (S20.tr (S28.tr (S36.tr (S108.tr (S219.tr S231)))))))))) R R)).gSt hx110
 obtain⟨ae235_0,ue235_0,ae235_1,ue235_1,rfl,fe235_0,fe235_1⟩:=Pair.un hre235
 refine Jl tv R R R R (Jd2 (cs:=[.slice ae235_0 x110.Ask.length ue235_0,.slice ae235_1 x110.Give.length ue235_1]) I154 Z154 R R R (haE hle235)) (Jg1 (κ:=K230) 11 R R R R R X154 R λb18 w236 K237 S238 f239=>⟨tv,Jj1 (κ:=K237) 11 (vc:=[.slice ae235_0 x110.Ask.length ue235_0,.slice ae235_1 x110.Give.length ue235_1]) R R R R R R R Z154 R R f239 R λw240 S241 f242=>⟨tv,Jd (Jh3 [2,1,1,1,1,2] 1 R (Jl tv R R R R (Jd2 (cs:=[.slice ae235_0 x110.Ask.length ue235_0,.slice ae235_1 x110.Give.length ue235_1]) I154 Z154 R R R (haE f242.cells)) (Ob h λx114 hx114 h=>Jh R R R C135 (o4 (κ:=Mk K237) (p0:=x110) (Ji3 (fe235_0.stp (S238.tr S241) R R)) (Ji3 (fe235_1.stp (S238.tr S241) R R)) hx114) ?_)))⟩⟩)
 rintro _ w245 ⟨k246,aZ,aP,aX,aU,rfl,e247,f248,f249⟩
 obtain⟨K250,S251,m252⟩:=Ji e247 12 R
 refine⟨tv,Jn1 (κ:=K250) (E:=Pair.ep154) 16 [14,15] (parts:=[(0,.tmp 114)]) (cells:=[.slice aZ x114.Ask.length aP,.slice aX x114.Give.length aU]) (xs:=([x114]:List Pair)) R R R R R R Y98 Tryzinfo154 R R R R R R R R R R ⟨[.slice aZ x114.Ask.length aP,.slice aX x114.Give.length aU],[],Zl K250 w245 [14,15],Zl K250 w245 [],R,Zl.sp (l1:=[14,15]) (l2:=[]) R,Zl.sr (l1:=[14,15]) (l2:=[]),⟨[.slice aZ x114.Ask.length aP],[.slice aX x114.Give.length aU],Zl K250 w245 [14],Zl K250 w245 [15],R,Zl.sp (l1:=[14]) (l2:=[15]) R,Zl.sr (l1:=[14]) (l2:=[15]),⟨_,_,R,(f248.mx (bH _) m252 R (R:12+2=14))⟩,⟨_,_,R,(f249.mx (bH _) m252 R (R:12+3=15))⟩⟩,R⟩ λbA bE w256 K257 S258 f259=>⟨tv,Ob h λx116 hx116 h=>Jm1 (κ:=K257) (E:=Pair.ep154) 10 [16] R R R R R R R R R Y98 Tryzinfo154 R R R R (f232.stp (S238.tr (S241.tr (S251.tr S258))) R R) f259.src (dc R) hx116 R λbl bk w261 K262 S263 f264=>⟨tv,Jc 1 R (Jz (Jp (Jf3 R ?_)))⟩⟩⟩
 have hw222:t5 .i64 (v108+1)=v108+1:=wr1 hj222 (Jm2 hc222) hN222
 rw[hw222]
 have hc222:=Jm2 hc222
 cases h
 exact Jz1 λa ha=>⟨k,_,Ja3 _,⟨K262,v108+1,(x116:(List Pair)),bl,bk,R,(S231.tr (S238.tr (S241.tr (S251.tr (S258.tr S263))))).wk R,f264,by omega,by omega,hk233⟩,(ha.mm R)⟩
 rintro _ w225 ⟨K226,s18,az,aL,rfl,S227,f228,rfl⟩
 have h:=hK223
 dsimp only[aft]at h
 refine Jp (Je [1,2,1,2] R (Jl tv R R R R (Jd2 (cs:=[.slice ad s9.1.length ac,.slice ab s9.2.length aa]) I104 Z104 R R R (haE (f111.stp (S219.tr S227) R R).cells)) (Jn 1 R (Jj1 (κ:=K226) 4 (vc:=[.slice ad s9.1.length ac,.slice ab s9.2.length aa]) R R R R R R R Z104 R R (f12.stp (S15.tr (S18.tr (S20.tr (S28.tr (S36.tr (S108.tr (S219.tr S227))))))) R R) R λw267 S268 f269=>⟨tv,Jb 1 R (Ju (Ja2 (l:=[.cell 4 104,.tmp 5]) V78 (bL R f269 I104 Z104 R (Jp2 R R)) R ?_))⟩))))
 cases h
 have S001:=(S219.tr (S227.tr S268))
 exact⟨(λb=>ren [(8,2),(9,3),(10,4)] (K226 b)),ad,ac,ab,aa,az,aL,R,((hE.stp (S3.tr (S7.tr (S11.tr (S15.tr (S18.tr (S20.tr (S28.tr (S36.tr (S108.tr (S219.tr (S227.tr S268))))))))))) R R).map (ren [(8,2),(9,3),(10,4)]) R R),((f109.stp S001 R R).map (ren [(8,2),(9,3),(10,4)]) R R),((f110.stp S001 R R).map (ren [(8,2),(9,3),(10,4)]) R R),((f228.stp S268 R R).map (ren [(8,2),(9,3),(10,4)]) R R)⟩
theorem oH {w:World}{κ:Col}{ab ad aa ac}{p0:Arena}{p1:Int}(g0_0:Rd (Rp.int .i64) κ w 0 ab ad p0.Owner) (g0_1:Rd (Rp.sl (Rp.int .i64)) κ w 0 aa ac p0.Next){r:Bool}(h:ir p0 p1=some r):Ret Tryz.prog 202 [.agg #[.slice ab p0.Owner.length ad,.slice aa p0.Next.length ac],vi p1] w (λv w'=>∃(κ':Col),v= .bool r/\Ent κ w κ' w'):=by
 unfold ir at h
 refine Ret.enter F202 R N202 R ?_
 dsimp only[envOf]
 have hE:=Ent.refl κ w
 refine Je [1,2] R (Jf1 (κ:=κ) 2 R R R R R R R λb2 w1 K2 S3 f4=>⟨tv,Jb 1 R (Jg3 [2,2,2,2,1,1,2,2,2] 3 R (Ob h λp12 h hK5=>Ju1 [(3,2),(4,1),(5,1),(6,2),(7,2)] [(8,2)] (λL w'=>L=[(4,.bool false),(12,.bool p12)]/\∃κ',Stp [] K2 w1 κ' w') tv ?_ ?_))⟩)
 revert h
 cases ht6:decide (0<=p1)
 refine JF λh=>Jn 1 R (Jd1 R R R R (Jd1 R R R R (Jn 2 R ?_)))
 cases h
 exact Jv1 _ tv ⟨R,_,Jj3⟩ (KM R)
 refine JT λh=>Jn 1 R (Jl tv R R R R (Jd2 (cs:=[.slice ab p0.Owner.length ad,.slice aa p0.Next.length ac]) I104 Z104 R R R (haE f4.cells)) (Ob h λx10 hx10 h=>Jh R R R C193 (mZ (κ:=Mk K2) (p0:=p0) (Ji3 (g0_0.stp S3 R R)) (Ji3 (g0_1.stp S3 R R)) hx10) ?_))
 rintro _ w9 ⟨k10,rfl,e11⟩
 obtain⟨K12,S13,m14⟩:=Ji e11 3 R
 refine⟨tv,Jn 2 R ?_⟩
 cases h
 exact Jv1 _ tv ⟨R,_,S13.wk R⟩ (KM R)
 rintro _ w16 _ ⟨rfl,K17,S18⟩
 have h:=hK5
 refine Jb 1 R (Ju (Ja2 (l:=[.tmp 4]) V202 (Jp2 R R) R ?_))
 cases h
 exact⟨K17,R,(hE.stp (S3.tr S18) R R)⟩
theorem oY {w:World}{κ:Col}{ac af ai ae}{p0:Clause}{ad ah aa ab}{p1:Clause}(g0_1:Rd (Rp.int .i64) κ w 0 ac af p0.A) (g0_2:Rd (Rp.int .i64) κ w 0 ai ae p0.B) (g1_1:Rd (Rp.int .i64) κ w 0 ad ah p1.A) (g1_2:Rd (Rp.int .i64) κ w 0 aa ab p1.B){r:Bool}(h:iT p0 p1=some r):Ret Tryz.prog 84 [.agg #[vi p0.Kind,.slice ac p0.A.length af,.slice ai p0.B.length ae],.agg #[vi p1.Kind,.slice ad p1.A.length ah,.slice aa p1.B.length ab]] w (λv w'=>∃(κ':Col),v= .bool r/\Ent κ w κ' w'):=by
 unfold iT at h
 refine Ret.enter F84 R N84 R ?_
 dsimp only[envOf]
 have hE:=Ent.refl κ w
 refine Je [1,1,2] R (Jf1 (κ:=κ) 2 R R R R R R R λb2 w1 K2 S3 f4=>⟨tv,Jf1 (κ:=K2) 3 R R R R R R R λb3 w5 K6 S7 f8=>⟨tv,Jb 1 R (Jq (Je [2,1,2,1,2] R (Jd3 R U119 R Z2 ?_)))⟩⟩)
 have f9:=f4.stp S7 R R
 refine Jb3 R I2 (f9.ld 0 R R) (Jd3 R U119 R Z2 (Jb3 R I2 (f8.ld 0 R R) (Jb 1 R ?_)))
 revert h
 cases ht10:(p0.Kind !=p1.Kind)
 refine JF λh=>Jy R (Js (Jp (Jq (Je [2,1,2,1,1,2] R (Jd3 R U119 R Z29 (Jb3 R I29 (f9.ld 1 R R) (Jd3 R U119 R Z29 (Jb3 R I29 (f8.ld 1 R R) (Ob h λx14 hx14 h=>Jh R R R C82 (ma (κ:=Mk K6) (Ji3 (g0_1.stp (S3.tr S7) R R)) (Ji3 (g1_1.stp (S3.tr S7) R R)) hx14) ?_)))))))))
 rintro _ w14 ⟨k15,rfl,e16⟩
 obtain⟨K17,S18,m19⟩:=Ji e16 4 R
 refine⟨tv,Jb 1 R ?_⟩
 revert h
 cases ht21:(!x14)
 refine JF λh=>Jy R (Js (Jp (Jq (Je [2,1,2,1,1,2] R (Jd3 R U119 R Z29 (Jb3 R I29 ((f9.stp S18 R R).ld 2 R R) (Jd3 R U119 R Z29 (Jb3 R I29 ((f8.stp S18 R R).ld 2 R R) (Ob h λx20 hx20 h=>Jh R R R C82 (ma (κ:=Mk K17) (Ji3 (g0_2.stp (S3.tr (S7.tr S18)) R R)) (Ji3 (g1_2.stp (S3.tr (S7.tr S18)) R R)) hx20) ?_)))))))))
 rintro _ w27 ⟨k28,rfl,e29⟩
 obtain⟨K30,S31,m32⟩:=Ji e29 6 R
 refine⟨tv,Jb 1 R ?_⟩
 revert h
 cases ht34:(!x20)
 refine JF λh=>Jy R (Js (Jp (Je3 R (Ju (Ja2 (l:=[.tmp 4]) V84 (Jp2 R R) R ?_)))))
 cases h
 exact⟨K30,R,(hE.stp (S3.tr (S7.tr (S18.tr S31))) R R)⟩
 refine JT λh=>Jx R (Je3 R (Ju (Jw (Ja2 (l:=[.tmp 4]) V84 (Jp2 R R) R ?_))))
 cases h
 exact⟨K30,R,(hE.stp (S3.tr (S7.tr (S18.tr S31))) R R)⟩
 refine JT λh=>Jx R (Je3 R (Ju (Jw (Ja2 (l:=[.tmp 4]) V84 (Jp2 R R) R ?_))))
 cases h
 exact⟨K17,R,(hE.stp (S3.tr (S7.tr S18)) R R)⟩
 refine JT λh=>Jx R (Je3 R (Ju (Jw (Ja2 (l:=[.tmp 4]) V84 (Jp2 R R) R ?_))))
 cases h
 exact⟨K6,R,(hE.stp (S3.tr S7) R R)⟩
end Go.Proofs.YtpcjbkgbnoocaaaGreat
