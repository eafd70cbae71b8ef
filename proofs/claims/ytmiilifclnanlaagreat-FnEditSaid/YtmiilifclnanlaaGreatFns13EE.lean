/- The walks, part 13. By program. -/
import Derived.Test.YtmiilifclnanlaaGreatFns10EE
import Derived.Test.YtmiilifclnanlaaGreatFns11EE
set_option linter.unusedVariables false
set_option linter.unusedSimpArgs false
namespace Go.Proofs.YtmiilifclnanlaaGreat
open Go Go.Wk Go.Proofs
set_option maxRecDepth 100000
set_option maxHeartbeats 1000000
theorem s_l4DrawAny_ok {w:World}{κ:Col}{ab aa}{p0:l1Cur}{b0}(g0_0:Rd (Rp.int .u8) κ w 0 ab aa p0.b) (gb0:Bc κ w 2 b0 107 [.slice ab p0.b.length aa,vi p0.i,vi p0.h]){r:Parity×Int×Int}(h:s_l4DrawAny p0=some r):Ret Tryz.prog 68 [.pointer (some ⟨b0,0,none⟩)] w (fun v w'=>∃(κ':Col) (ra0:Option Addr) (ru0:Nat) (ra1:Option Addr) (ru1:Nat) (ra2:Option Addr) (ru2:Nat),v= .agg #[.slice ra0 r.1.Arena.Owner.length ru0,.slice ra1 r.1.Arena.Next.length ru1,.slice ra2 r.1.Prio.length ru2]∧Ent κ w κ' w'∧Oc E6 2 κ' w' 3 ra0 ru0 r.1.Arena.Owner∧Oc (Ep.own E6 2) 22 κ' w' 4 ra1 ru1 r.1.Arena.Next∧Oc E6 2 κ' w' 5 ra2 ru2 r.1.Prio∧Bc κ' w' 2 b0 107 [.slice ab p0.b.length aa,vi r.2.1,vi r.2.2]):=by
 unfold s_l4DrawAny at h
 refine Ret.enter F68 R N68 R ?_
 dsimp only[envOf]
 have hE:=Ent.refl κ w
 refine Je [1] R (Jg1 (κ:=κ) 3 R R R R R X39 R fun b2 w1 K2 S3 f4=>⟨tv,Jd (Je [2,1,1,1] R (Jn 1 R (Ob h fun x5 hx5 h=>?_)))⟩)
 have f5:=g0_0.stp S3 R R
 refine Jh R R R C107 (s_l4Draw_ok (κ:=fun b=>mp [(2,2)] 0 (K2 b)) (p0:=p0) (Jl2 f5 (mp [(2,2)] 0) R R) ((gb0.stp S3 R R).map (mp [(2,2)] 0) R R) hx5) ?_
 rintro _ w7 ⟨k8,ah,aj,ad,ao,ae,af,rfl,e9,f10,f11,f12,f13⟩
 obtain⟨K14,S15,m16⟩:=Ji e9 4 R
 refine⟨tv,?_⟩
 have f18:=f10.mx (no_int _) m16 R (R:4+3=7)
 have f19:=f11.mx (no_own (no_int _) _) m16 R (R:4+4=8)
 have f20:=f12.mx (no_int _) m16 R (R:4+5=9)
 refine Jg1 (κ:=K14) 10 R R R R R X39 R fun b3 w22 K23 S24 f25=>⟨tv,Jj1 (κ:=K23) 10 (vc:=[.slice ah x5.1.Arena.Owner.length aj,.slice ad x5.1.Arena.Next.length ao,.slice ae x5.1.Prio.length af]) R R R R R R R Z39 R R f25 R fun w26 S27 f28=>⟨tv,Jd (Jq (Je [2,1] R (Jn 1 R (Ob h fun x7 hx7 h=>?_))))⟩⟩
 have f29:=f5.stp (S15.tr (S24.tr S27)) R R
 refine Jh R R R C71 (s_l1Once_ok (κ:=fun b=>mp [(6,2)] 0 (K23 b)) (p0:=(⟨p0.b,x5.2.1,x5.2.2⟩:l1Cur)) (Jl2 f29 (mp [(6,2)] 0) R R) (((f13.mx m16 R (R:4+2=6)).stp (S24.tr S27) R R).map (mp [(6,2)] 0) R R) hx7) ?_
 rintro _ w31 ⟨k32,rfl,e33,f34⟩
 obtain⟨K35,S36,m37⟩:=Ji e33 11 R
 refine⟨tv,?_⟩
 have f39:=f34.mx m37 R (R:11+2=13)
 refine Jd (Ob h fun q1 h hK40=>Jx1 (fun L w'=>∃κ' ac ai am al an ak,L=[(0,.pointer (some ⟨b0,0,none⟩)),(2,.pointer (some ⟨b2,0,none⟩)),(3,.pointer (some ⟨b3,0,none⟩))]∧Stp [9,10,13,16,19,20,21] K35 w31 κ' w'∧Oc E6 2 κ' w' 7 ac ai q1.2.2.1∧Oc (Ep.own E6 2) 22 κ' w' 8 am al q1.2.2.2.1∧Oc E6 2 κ' w' 9 an ak q1.2.2.2.2∧Bc κ' w' 13 b0 107 [.slice ab p0.b.length aa,vi q1.1,vi q1.2.1]∧Bc κ' w' 10 b3 39 [.slice ac q1.2.2.1.length ai,.slice am q1.2.2.2.1.length al,.slice an q1.2.2.2.2.length ak]) ?_ ?_)
 revert h
 cases ht49:x7.1
 refine JF fun h=>Jy R (Js ?_)
 cases h
 have S001:=(S24.tr (S27.tr S36))
 exact Jw1 _ ⟨K35,ah,aj,ad,ao,ae,af,R,(Jx2 _ _).wk R,(f18.stp S001 R R),(f19.stp S001 R R),(f20.stp S001 R R),f39,(f28.stp S36 R R)⟩ (KM R)
 refine JT fun h=>Jx R (Je [2,1] R (Jn 1 R (Ob h fun x9 hx9 h=>?_)))
 have f50:=f29.stp S36 R R
 refine Jh R R R C69 (s_l1Below_ok (κ:=fun b=>mp [(13,2)] 0 (K35 b)) (p0:=(⟨p0.b,x7.2.1,x7.2.2⟩:l1Cur)) (Jl2 f50 (mp [(13,2)] 0) R R) (f39.map (mp [(13,2)] 0) R R) hx9) ?_
 rintro _ w51 ⟨k52,rfl,e53,f54⟩
 obtain⟨K55,S56,m57⟩:=Ji e53 14 R
 refine⟨tv,?_⟩
 have f59:=f54.mx m57 R (R:14+2=16)
 refine Jd (Jv (Je [2,2] R (Jb 2 R (Ob h fun q2 h hK60=>Jx1 (fun L w'=>∃κ' ar ap aC az aG aB,L=[(0,.pointer (some ⟨b0,0,none⟩)),(2,.pointer (some ⟨b2,0,none⟩)),(3,.pointer (some ⟨b3,0,none⟩))]∧Stp [9,10,16,19,20,21] K55 w51 κ' w'∧Oc E6 2 κ' w' 7 ar ap q2.2.2.1∧Oc (Ep.own E6 2) 22 κ' w' 8 aC az q2.2.2.2.1∧Oc E6 2 κ' w' 9 aG aB q2.2.2.2.2∧Bc κ' w' 16 b0 107 [.slice ab p0.b.length aa,vi q2.1,vi q2.2.1]∧Bc κ' w' 10 b3 39 [.slice ar q2.2.2.1.length ap,.slice aC q2.2.2.2.1.length az,.slice aG q2.2.2.2.2.length aB]) ?_ ?_))))
 revert h
 cases ht69:(x9.1==0)
 refine JF fun h=>Jy R (Je [2,2] R (Jb 2 R (Ob h fun q3 h hK94=>Jx1 (fun L w'=>∃κ' aA aE aq aw aD ay,L=[(0,.pointer (some ⟨b0,0,none⟩)),(2,.pointer (some ⟨b2,0,none⟩)),(3,.pointer (some ⟨b3,0,none⟩))]∧Stp [9,10,16,19,20,21] K55 w51 κ' w'∧Oc E6 2 κ' w' 7 aA aE q3.2.2.1∧Oc (Ep.own E6 2) 22 κ' w' 8 aq aw q3.2.2.2.1∧Oc E6 2 κ' w' 9 aD ay q3.2.2.2.2∧Bc κ' w' 16 b0 107 [.slice ab p0.b.length aa,vi q3.1,vi q3.2.1]∧Bc κ' w' 10 b3 39 [.slice aA q3.2.2.1.length aE,.slice aq q3.2.2.2.1.length aw,.slice aD q3.2.2.2.2.length ay]) ?_ ?_)))
 revert h
 cases ht103:(x9.1==1)
 refine JF fun h=>Jy R (Je [2,2] R (Jb 2 R (Ob h fun q4 h hK122=>Jx1 (fun L w'=>∃κ' au av aF ax,L=[(0,.pointer (some ⟨b0,0,none⟩)),(2,.pointer (some ⟨b2,0,none⟩)),(3,.pointer (some ⟨b3,0,none⟩))]∧Stp [10,16,19,20,21] K55 w51 κ' w'∧Oc E6 2 κ' w' 7 au av q4.2.2.1∧Oc (Ep.own E6 2) 22 κ' w' 8 aF ax q4.2.2.2∧Bc κ' w' 16 b0 107 [.slice ab p0.b.length aa,vi q4.1,vi q4.2.1]∧Bc κ' w' 10 b3 39 [.slice au q4.2.2.1.length av,.slice aF q4.2.2.2.length ax,.slice ae x5.1.Prio.length af]) ?_ ?_)))
 revert h
 cases ht130:(x9.1==2)
 refine JF fun h=>Jy R (Js ?_)
 cases h
 have S002:=(S24.tr (S27.tr (S36.tr S56)))
 exact Jw1 _ ⟨K55,ah,aj,ad,ao,R,(Jx2 _ _).wk R,(f18.stp S002 R R),(f19.stp S002 R R),f59,(f28.stp (S36.tr S56) R R)⟩ (KM R)
 refine JT fun h=>Jx R (Ja [2,1,2,1] R (Jn 1 R (Ob h fun x27 hx27 h=>Jh R R R C109 (s_l1DrawAny_ok (κ:=fun b=>mp [(16,2)] 0 (K55 b)) (p0:=(⟨p0.b,x9.2.1,x9.2.2⟩:l1Cur)) (Jl2 (f50.stp S56 R R) (mp [(16,2)] 0) R R) (f59.map (mp [(16,2)] 0) R R) hx27) ?_)))
 rintro _ w132 ⟨k133,aL,aH,aK,aM,rfl,e134,f135,f136,f137⟩
 obtain⟨K138,S139,m140⟩:=Ji e134 17 R
 refine⟨tv,Jf R (Jb2 U39 R Z37 R R) (Ji1 (κ:=K138) 10 (off:=0) (vc:=[.slice aL x27.1.Owner.length aH,.slice aK x27.1.Next.length aM]) (cs':=[.slice aL x27.1.Owner.length aH,.slice aK x27.1.Next.length aM,.slice ae x5.1.Prio.length af]) R R R R R R R Z37 R R (f28.stp (S36.tr (S56.tr S139)) R R) R R fun w146 S147 f148=>⟨tv,Jo ?_⟩)⟩
 cases h
 exact Jw1 _ ⟨(fun b=>ren [(20,7),(21,8),(19,16)] (K138 b)),aL,aH,aK,aM,R,(Jy2 ((S139.tr S147).wk R) [(20,7),(21,8),(19,16)] R),(((f135.mx (no_int _) m140 R (R:17+3=20)).stp S147 R R).map (ren [(20,7),(21,8),(19,16)]) R R),(((f136.mx (no_own (no_int _) _) m140 R (R:17+4=21)).stp S147 R R).map (ren [(20,7),(21,8),(19,16)]) R R),(((f137.mx m140 R (R:17+2=19)).stp S147 R R).map (ren [(20,7),(21,8),(19,16)]) R R),(f148.map (ren [(20,7),(21,8),(19,16)]) R R)⟩ (KM R)
 rintro _ w123 ⟨K124,au,av,aF,ax,rfl,S125,f126,f127,f128,f129⟩
 have h:=hK122
 cases h
 exact Jw1 _ ⟨K124,au,av,aF,ax,ae,af,R,S125.wk R,f126,f127,(f20.stp (S24.tr (S27.tr (S36.tr (S56.tr S125)))) R R),f128,f129⟩ (KM R)
 refine JT fun h=>Jx R (Ja [2,1,1,1,2,1] R (Jf R (Jb2 U39 R Z22 R R) ?_))
 have f104:=f28.stp (S36.tr S56) R R
 refine Jl tv R R R R (Jc2 I22 R R (hvE (f104.ld 2 R R))) (Jn1 (κ:=K55) (E:=E6) 17 [] (parts:=[(0,.const (vi 1))]) (cells:=[vi 1]) (xs:=([1]:List Int)) R R R R R R Y22 Tryzinfo2 R R R R R R R R R R ⟨[vi 1],[],Zl K55 w51 [],Zl K55 w51 [],R,Zl.sp (l1:=[]) (l2:=[]) R,Zl.sr (l1:=[]) (l2:=[]),R,R⟩ fun aO aN w105 K106 S107 f108=>⟨tv,Ob h fun x22 hx22 h=>Jm1 (κ:=K106) (E:=E6) 9 [] R R R R R R R R R Y22 Tryzinfo2 R R R R (f20.stp (S24.tr (S27.tr (S36.tr (S56.tr S107)))) R R) (Sl.srcP (pu_int _) f108.rdc) sy_false hx22 R fun aJ aI w110 K111 S112 f113=>⟨tv,Jf R (Jb2 U39 R Z22 R R) (Ji1 (κ:=K111) 10 (off:=2) (vc:=[.slice aJ x22.length aI]) (cs':=[.slice ah x5.1.Arena.Owner.length aj,.slice ad x5.1.Arena.Next.length ao,.slice aJ x22.length aI]) R R R R R R R Z22 R R (f104.stp (S107.tr S112) R R) R R fun w115 S116 f117=>⟨tv,Jo ?_⟩)⟩⟩)
 cases h
 have S003:=(S24.tr (S27.tr (S36.tr (S56.tr (S107.tr (S112.tr S116))))))
 have S004:=(S107.tr (S112.tr S116))
 exact Jw1 _ ⟨K111,ah,aj,ad,ao,aJ,aI,R,S004.wk R,(f18.stp S003 R R),(f19.stp S003 R R),(f113.stp S116 R R),(f59.stp S004 R R),f117⟩ (KM R)
 rintro _ w95 ⟨K96,aA,aE,aq,aw,aD,ay,rfl,S97,f98,f99,f100,f101,f102⟩
 have h:=hK94
 cases h
 exact Jw1 _ ⟨K96,aA,aE,aq,aw,aD,ay,R,S97.wk R,f98,f99,f100,f101,f102⟩ (KM R)
 refine JT fun h=>Jx R (Js1 (κ:=K55) [10] none [(0,2),(2,2),(1,0),(3,1),(4,2),(5,1)] [] (by kernel_rfl) (by kernel_rfl) fun w71 S70=>Jf R (Jb2 U39 R Z22 R R) (Jn 1 R ?_))
 have f72:=f28.stp (S36.tr (S56.tr S70)) R R
 refine Jg R (Jc2 I22 R R (hvC (f72.ld 2 R R) R)) (Ob h fun x15 hx15 h=>Jh R R R C108 (s_l1Num_ok (κ:=fun b=>mp [(16,2)] 0 (K55 b)) (p0:=(⟨p0.b,x9.2.1,x9.2.2⟩:l1Cur)) (Jl2 (f50.stp (S56.tr S70) R R) (mp [(16,2)] 0) R R) ((f59.stp S70 R R).map (mp [(16,2)] 0) R R) hx15) ?_)
 rintro _ w75 ⟨k76,rfl,e77,f78⟩
 obtain⟨K79,S80,m81⟩:=Ji e77 17 R
 refine⟨(S80.cl R),Ob h fun x16 hx16 h=>Jf R (Jf2 f20.rdc hx16 U22 Z2 R R R R) (Ob h fun y40 hy40 h=>Jk1 (κ:=K79) (E:=E6) 9 [] R R R R R R R R Z2 R R R R (f20.stp (S24.tr (S27.tr (S36.tr (S56.tr (S70.tr S80))))) R R) hy40 fun w85 K86 S87 f88=>⟨((S80.tr S87).cl R),?_⟩)⟩
 have hn89:x5.1.Prio.length=y40.length:=(Jt2 hy40).2.2.2.symm
 refine Jt1 (Jo ?_)
 cases h
 have S005:=(S24.tr (S27.tr (S36.tr (S56.tr (S70.tr (S80.tr S87))))))
 exact Jw1 _ ⟨(fun b=>ren [(19,16)] (K86 b)),ah,aj,ad,ao,ae,af,R,(Jy2 ((S70.tr (S80.tr S87)).wk R) [(19,16)] R),((f18.stp S005 R R).map (ren [(19,16)]) R R),((f19.stp S005 R R).map (ren [(19,16)]) R R),(f88.map (ren [(19,16)]) R R),(((f78.mx m81 R (R:17+2=19)).stp S87 R R).map (ren [(19,16)]) R R),(Bc.cast ((f72.stp (S80.tr S87) R R).map (ren [(19,16)]) R R) (by simp only[hn89]))⟩ (KM R)
 rintro _ w61 ⟨K62,ar,ap,aC,az,aG,aB,rfl,S63,f64,f65,f66,f67,f68⟩
 have h:=hK60
 refine Jz ?_
 cases h
 exact Jw1 _ ⟨(fun b=>ren [(16,13)] (K62 b)),ar,ap,aC,az,aG,aB,R,(Jy2 ((S56.tr S63).wk R) [(16,13)] R),(f64.map (ren [(16,13)]) R R),(f65.map (ren [(16,13)]) R R),(f66.map (ren [(16,13)]) R R),(f67.map (ren [(16,13)]) R R),(f68.map (ren [(16,13)]) R R)⟩ (KM R)
 rintro _ w41 ⟨K42,ac,ai,am,al,an,ak,rfl,S43,f44,f45,f46,f47,f48⟩
 have h:=hK40
 refine Jp (Je [1,1] R (Jl tv R R R R (Jd2 (cs:=[.slice ac q1.2.2.1.length ai,.slice am q1.2.2.2.1.length al,.slice an q1.2.2.2.2.length ak]) I39 Z39 R R R (haE f48.cells)) (Jj1 (κ:=K42) 3 (vc:=[.slice ac q1.2.2.1.length ai,.slice am q1.2.2.2.1.length al,.slice an q1.2.2.2.2.length ak]) R R R R R R R Z39 R R (f4.stp (S15.tr (S24.tr (S27.tr (S36.tr S43)))) R R) R fun w161 S162 f163=>⟨tv,Jd (Ju (Ja2 (l:=[.cell 2 39]) V68 (res_cellA R f163 I39 Z39 R R) R ?_))⟩)))
 cases h
 exact⟨(fun b=>ren [(7,3),(8,4),(9,5),(13,2)] (K42 b)),ac,ai,am,al,an,ak,R,((hE.stp (S3.tr (S15.tr (S24.tr (S27.tr (S36.tr (S43.tr S162)))))) R R).map (ren [(7,3),(8,4),(9,5),(13,2)]) R R),((f44.stp S162 R R).map (ren [(7,3),(8,4),(9,5),(13,2)]) R R),((f45.stp S162 R R).map (ren [(7,3),(8,4),(9,5),(13,2)]) R R),((f46.stp S162 R R).map (ren [(7,3),(8,4),(9,5),(13,2)]) R R),((f47.stp S162 R R).map (ren [(7,3),(8,4),(9,5),(13,2)]) R R)⟩
theorem s_SameParity_ok {w:World}{κ:Col}{aa ah ab ac ak am}{p0:Parity}{ai ae af ad aj al}{p1:Parity}(g0_0_0:Rd (Rp.int .i64) κ w 0 aa ah p0.Arena.Owner) (g0_0_1:Rd (Rp.sl (Rp.int .i64)) κ w 0 ab ac p0.Arena.Next) (g0_1:Rd (Rp.int .i64) κ w 0 ak am p0.Prio) (g1_0_0:Rd (Rp.int .i64) κ w 0 ai ae p1.Arena.Owner) (g1_0_1:Rd (Rp.sl (Rp.int .i64)) κ w 0 af ad p1.Arena.Next) (g1_1:Rd (Rp.int .i64) κ w 0 aj al p1.Prio){r:Bool}(h:s_SameParity p0 p1=some r):Ret Tryz.prog 23 [.agg #[.slice aa p0.Arena.Owner.length ah,.slice ab p0.Arena.Next.length ac,.slice ak p0.Prio.length am],.agg #[.slice ai p1.Arena.Owner.length ae,.slice af p1.Arena.Next.length ad,.slice aj p1.Prio.length al]] w (fun v w'=>∃(κ':Col),v= .bool r∧Ent κ w κ' w'):=by
 unfold s_SameParity at h
 refine Ret.enter F23 R N23 R ?_
 dsimp only[envOf]
 have hE:=Ent.refl κ w
 refine Je [1,1,2] R (Jf1 (κ:=κ) 2 R R R R R R R fun b2 w1 K2 S3 f4=>⟨tv,Jf1 (κ:=K2) 3 R R R R R R R fun b3 w5 K6 S7 f8=>⟨tv,Jb 1 R (Je [1,1,2,1,1,2,2,2,1,2,1,1,2,2,2,1,2,1,1,2,2] R ?_)⟩⟩)
 have f9:=f4.stp S7 R R
 refine Jl tv R R R R (Jd2 (cs:=[.slice aa p0.Arena.Owner.length ah,.slice ab p0.Arena.Next.length ac,.slice ak p0.Prio.length am]) I39 Z39 R R R (haE f9.cells)) (Ob h fun x6 hx6 h=>?_)
 have f10:=g0_0_0.stp (S3.tr S7) R R
 have f11:=g0_0_1.stp (S3.tr S7) R R
 have f12:=g0_1.stp (S3.tr S7) R R
 refine Jh R R R C55 (s_ParityOk_ok (κ:=fun b=>mp [] 0 (K6 b)) (p0:=p0) (Jl2 f10 (mp [] 0) R R) (Jl2 f11 (mp [] 0) R R) (Jl2 f12 (mp [] 0) R R) hx6) ?_
 rintro _ w13 ⟨k14,rfl,e15⟩
 obtain⟨K16,S17,m18⟩:=Ji e15 4 R
 refine⟨tv,Jn 1 R (Ob h fun p10 h hK20=>Ju1 [(3,1),(4,1),(5,2)] [(6,2),(7,2),(8,1),(9,2),(10,1),(11,1),(12,2),(13,2),(14,2),(15,1),(16,2),(17,1),(18,1),(19,2),(20,2)] (fun L w'=>L=[(2,.pointer (some ⟨b2,0,none⟩)),(3,.pointer (some ⟨b3,0,none⟩)),(4,.bool false),(10,.bool p10)]∧∃κ',Stp [] K16 w13 κ' w') tv ?_ ?_)⟩
 revert h
 cases ht21:x6
 refine JF fun h=>Jd1 R R R R (Jd1 R R R R (Jn 1 R ?_))
 cases h
 exact Jv1 _ tv ⟨R,_,(Jx2 _ _).wk R⟩ (KM R)
 have S001:=(S3.tr (S7.tr S17))
 refine JT fun h=>Jl tv R R R R (Jd2 (cs:=[.slice ai p1.Arena.Owner.length ae,.slice af p1.Arena.Next.length ad,.slice aj p1.Prio.length al]) I39 Z39 R R R (haE (f8.stp S17 R R).cells)) (Ob h fun x9 hx9 h=>Jh R R R C55 (s_ParityOk_ok (κ:=fun b=>mp [] 0 (K16 b)) (p0:=p1) (Jl2 (g1_0_0.stp S001 R R) (mp [] 0) R R) (Jl2 (g1_0_1.stp S001 R R) (mp [] 0) R R) (Jl2 (g1_1.stp S001 R R) (mp [] 0) R R) hx9) ?_)
 rintro _ w26 ⟨k27,rfl,e28⟩
 obtain⟨K29,S30,m31⟩:=Ji e28 6 R
 refine⟨tv,Jn 1 R ?_⟩
 cases h
 exact Jv1 _ tv ⟨R,_,S30.wk R⟩ (KM R)
 rintro _ w33 _ ⟨rfl,K34,S35⟩
 have h:=hK20
 refine Jn 1 R (Ob h fun p17 h hK36=>Ju1 [(7,2),(8,1),(9,2),(10,1),(11,1),(12,2)] [(13,2),(14,2),(15,1),(16,2),(17,1),(18,1),(19,2),(20,2)] (fun L w'=>L=[(2,.pointer (some ⟨b2,0,none⟩)),(3,.pointer (some ⟨b3,0,none⟩)),(4,.bool false),(17,.bool p17)]∧∃κ',Stp [] K34 w33 κ' w') tv ?_ ?_)
 revert h
 cases ht37:p10
 refine JF fun h=>Jn 1 R (Jd1 R R R R (Jn 1 R (Jd1 R R R R (Jd1 R R R R (Jn 1 R ?_)))))
 cases h
 exact Jv1 _ tv ⟨R,_,(Jx2 _ _).wk R⟩ (KM R)
 have S002:=(S17.tr S35)
 have S003:=(S3.tr (S7.tr (S17.tr S35)))
 refine JT fun h=>Jf R (Jb2 U39 R Z37 R R) (Jl tv R R R R (Jd2 (cs:=[.slice aa p0.Arena.Owner.length ah,.slice ab p0.Arena.Next.length ac]) I37 Z37 R R R (haE ((f9.stp S002 R R).lds 0 2 R))) (Jf R (Jb2 U39 R Z37 R R) (Jl tv R R R R (Jd2 (cs:=[.slice ai p1.Arena.Owner.length ae,.slice af p1.Arena.Next.length ad]) I37 Z37 R R R (haE ((f8.stp S002 R R).lds 0 2 R))) (Ob h fun x16 hx16 h=>Jh R R R C56 (s_SameArena_ok (κ:=fun b=>mp [] 0 (K34 b)) (p0:=p0.Arena) (p1:=p1.Arena) (Jl2 (f10.stp S002 R R) (mp [] 0) R R) (Jl2 (f11.stp S002 R R) (mp [] 0) R R) (Jl2 (g1_0_0.stp S003 R R) (mp [] 0) R R) (Jl2 (g1_0_1.stp S003 R R) (mp [] 0) R R) hx16) ?_))))
 rintro _ w44 ⟨k45,rfl,e46⟩
 obtain⟨K47,S48,m49⟩:=Ji e46 6 R
 refine⟨tv,Jn 1 R ?_⟩
 cases h
 exact Jv1 _ tv ⟨R,_,S48.wk R⟩ (KM R)
 rintro _ w51 _ ⟨rfl,K52,S53⟩
 have h:=hK36
 refine Jn 1 R (Ob h fun p24 h hK54=>Ju1 [(14,2),(15,1),(16,2),(17,1),(18,1),(19,2)] [(20,2)] (fun L w'=>L=[(4,.bool false),(24,.bool p24)]∧∃κ',Stp [] K52 w51 κ' w') tv ?_ ?_)
 revert h
 cases ht55:p17
 refine JF fun h=>Jn 1 R (Jd1 R R R R (Jn 1 R (Jd1 R R R R (Jd1 R R R R (Jn 1 R ?_)))))
 cases h
 exact Jv1 _ tv ⟨R,_,(Jx2 _ _).wk R⟩ (KM R)
 have S004:=(S17.tr (S35.tr S53))
 refine JT fun h=>Jf R (Jb2 U39 R Z22 R R) (Jl tv R R R R (Jc2 I22 R R (hvE ((f9.stp S004 R R).ld 2 R R))) (Jf R (Jb2 U39 R Z22 R R) (Jl tv R R R R (Jc2 I22 R R (hvE ((f8.stp S004 R R).ld 2 R R))) (Ob h fun x23 hx23 h=>Jh R R R C57 (s_l1Same_ok (κ:=fun b=>mp [] 0 (K52 b)) (Jl2 (f12.stp S004 R R) (mp [] 0) R R) (Jl2 (g1_1.stp (S3.tr (S7.tr (S17.tr (S35.tr S53)))) R R) (mp [] 0) R R) hx23) ?_))))
 rintro _ w60 ⟨k61,rfl,e62⟩
 obtain⟨K63,S64,m65⟩:=Ji e62 6 R
 refine⟨tv,Jn 1 R ?_⟩
 cases h
 exact Jv1 _ tv ⟨R,_,S64.wk R⟩ (KM R)
 rintro _ w67 _ ⟨rfl,K68,S69⟩
 have h:=hK54
 refine Jb 1 R (Ju (Ja2 (l:=[.tmp 4]) V23 (Jp2 R R) R ?_))
 cases h
 exact⟨K68,R,(hE.stp (S3.tr (S7.tr (S17.tr (S35.tr (S53.tr S69))))) R R)⟩
theorem i_AnswerOk_ok {w:World}{κ:Col}{aa af ab ac ad ae}{p0:Parity}{aj ak ah ai}{p1:Answer}(g0_0_0:Rd (Rp.int .i64) κ w 0 aa af p0.Arena.Owner) (g0_0_1:Rd (Rp.sl (Rp.int .i64)) κ w 0 ab ac p0.Arena.Next) (g0_1:Rd (Rp.int .i64) κ w 0 ad ae p0.Prio) (g1_0:Rd (Rp.int .i64) κ w 0 aj ak p1.Won) (g1_1:Rd (Rp.int .i64) κ w 0 ah ai p1.Plan){r:Bool}(h:i_AnswerOk p0 p1=some r):Ret Tryz.prog 41 [.agg #[.slice aa p0.Arena.Owner.length af,.slice ab p0.Arena.Next.length ac,.slice ad p0.Prio.length ae],.agg #[.slice aj p1.Won.length ak,.slice ah p1.Plan.length ai]] w (fun v w'=>∃(κ':Col),v= .bool r∧Ent κ w κ' w'):=by
 unfold i_AnswerOk at h
 refine Ret.enter F41 R N41 R ?_
 dsimp only[envOf]
 have hE:=Ent.refl κ w
 refine Je [1,1,2] R (Jf1 (κ:=κ) 2 R R R R R R R fun b2 w1 K2 S3 f4=>⟨tv,Jf1 (κ:=K2) 3 R R R R R R R fun b3 w5 K6 S7 f8=>⟨tv,Jb 1 R (Jq (Je [1,1,2,2,1,1,1,2,2] R ?_))⟩⟩)
 have f9:=f4.stp S7 R R
 refine Jl tv R R R R (Jd2 (cs:=[.slice aa p0.Arena.Owner.length af,.slice ab p0.Arena.Next.length ac,.slice ad p0.Prio.length ae]) I39 Z39 R R R (haE f9.cells)) (Ob h fun x7 hx7 h=>?_)
 have f10:=g0_0_0.stp (S3.tr S7) R R
 have f11:=g0_0_1.stp (S3.tr S7) R R
 have f12:=g0_1.stp (S3.tr S7) R R
 refine Jh R R R C54 (i_ParityOk_ok (κ:=fun b=>mp [] 0 (K6 b)) (p0:=p0) (Jl2 f10 (mp [] 0) R R) (Jl2 f11 (mp [] 0) R R) (Jl2 f12 (mp [] 0) R R) hx7) ?_
 rintro _ w13 ⟨k14,rfl,e15⟩
 obtain⟨K16,S17,m18⟩:=Ji e15 4 R
 refine⟨tv,Jn 2 R (Ob h fun p14 h hK20=>Ju1 [(4,1),(5,1),(6,1),(7,2),(8,2)] [] (fun L w'=>L=[(2,.pointer (some ⟨b2,0,none⟩)),(3,.pointer (some ⟨b3,0,none⟩)),(14,.bool p14)]∧∃κ',Stp [] K16 w13 κ' w') tv ?_ ?_)⟩
 revert h
 cases ht21:(!x7)
 refine JF fun h=>Jl tv R R R R (Jd2 (cs:=[.slice aa p0.Arena.Owner.length af,.slice ab p0.Arena.Next.length ac,.slice ad p0.Prio.length ae]) I39 Z39 R R R (haE (f9.stp S17 R R).cells)) (Jl tv R R R R (Jd2 (cs:=[.slice aj p1.Won.length ak,.slice ah p1.Plan.length ai]) I34 Z34 R R R (haE (f8.stp S17 R R).cells)) (Ob h fun x12 hx12 h=>Jh R R R C80 (i_isAnswer_ok (κ:=fun b=>mp [] 0 (K16 b)) (p0:=p0) (p1:=p1) (Jl2 (f10.stp S17 R R) (mp [] 0) R R) (Jl2 (f11.stp S17 R R) (mp [] 0) R R) (Jl2 (f12.stp S17 R R) (mp [] 0) R R) (Jl2 (g1_0.stp (S3.tr (S7.tr S17)) R R) (mp [] 0) R R) (Jl2 (g1_1.stp (S3.tr (S7.tr S17)) R R) (mp [] 0) R R) hx12) ?_))
 rintro _ w29 ⟨k30,rfl,e31⟩
 obtain⟨K32,S33,m34⟩:=Ji e31 6 R
 refine⟨tv,Jn 2 R ?_⟩
 cases h
 exact Jv1 _ tv ⟨R,_,S33.wk R⟩ (KM R)
 refine JT fun h=>Jd1 R R R R (Jd1 R R R R (Jd1 R R R R (Jn 2 R ?_)))
 cases h
 exact Jv1 _ tv ⟨R,_,(Jx2 _ _).wk R⟩ (KM R)
 rintro _ w36 _ ⟨rfl,K37,S38⟩
 have h:=hK20
 refine Jd ?_
 revert h
 cases ht39:p14
 refine JF fun h=>Jy R (Js (Jp (Jq (Je [2] R (Jb 1 R (Ob h fun q2 hq43 hK42=>?_))))))
 clear h
 refine Jx1 (fun L w'=>∃κ' s3,L=[]∧Stp [] K37 w36 κ' w'∧q2=Sum.inr s3) ?_ ?_
 refine Jv (Jy1 (fun k L w'=>∃κ' s1,L=[(2,.pointer (some ⟨b2,0,none⟩)),(3,.pointer (some ⟨b3,0,none⟩)),(5,vi s1)]∧Stp [] K37 w36 κ' w'∧whileM (i_AnswerOk_b0 p0 p1) k s1=some q2) ⟨_,_,⟨K37,(0:Int),R,(Jx2 _ _).wk R,hq43⟩,(KM R)⟩ ?_)
 rintro k _ w47 ⟨K48,s1,rfl,S49,h⟩
 rcases k with _ | k
 cases h
 obtain⟨o41,h,hk50⟩:=BI h;unfold i_AnswerOk_b0 at h
 refine Jq (Je [2,2] R (Jb 2 R ?_))
 revert h
 cases ht51:decide (s1≤1)
 refine JF fun h=>Jy R (Jc1 (Jt (Jt ?_)))
 cases h
 have h:=hk50
 refine Jb1 ?_
 cases h
 exact Jw1 _ ⟨K48,(s1:Int),R,S49.wk R,R⟩ KN
 refine JT fun h=>Jx R (Js (Jp (Jq (Jv (Jq (Js1 (κ:=K48) [2,3] none [(1,2),(3,2),(7,2),(0,0),(2,0),(5,0),(6,0),(4,1),(8,1),(9,1),(10,2)] [] (by kernel_rfl) (by kernel_rfl) fun w53 S52=>Jn 3 R ?_))))))
 have f54:=f9.stp (S17.tr (S38.tr (S49.tr S52))) R R
 refine Jg R (Jd2 (cs:=[.slice aa p0.Arena.Owner.length af,.slice ab p0.Arena.Next.length ac,.slice ad p0.Prio.length ae]) I39 Z39 R R R (haC f54.cells R)) ?_
 have f55:=f8.stp (S17.tr (S38.tr (S49.tr S52))) R R
 refine Jg R (Jd2 (cs:=[.slice aj p1.Won.length ak,.slice ah p1.Plan.length ai]) I34 Z34 R R R (haC f55.cells R)) (Jg R (Jd2 (cs:=[.slice aa p0.Arena.Owner.length af,.slice ab p0.Arena.Next.length ac,.slice ad p0.Prio.length ae]) I39 Z39 R R R (haC f54.cells R)) (Jg R (Jd2 (cs:=[.slice aj p1.Won.length ak,.slice ah p1.Plan.length ai]) I34 Z34 R R R (haC f55.cells R)) (Ob h fun x23 hx23 h=>?_)))
 have f56:=g1_0.stp (S3.tr (S7.tr (S17.tr (S38.tr (S49.tr S52))))) R R
 have f57:=g1_1.stp (S3.tr (S7.tr (S17.tr (S38.tr (S49.tr S52))))) R R
 refine Jh R R R C82 (i_RegionOf_ok (κ:=fun b=>mp [] 0 (K48 b)) (p0:=p1) (Jl2 f56 (mp [] 0) R R) (Jl2 f57 (mp [] 0) R R) hx23) ?_
 rintro _ w58 ⟨k59,an,al,rfl,e60,f61⟩
 obtain⟨K62,S63,m64⟩:=Ji e60 6 R
 refine⟨(S63.cl R),Ob h fun x27 hx27 h=>?_⟩
 have f67:=f10.stp (S17.tr (S38.tr (S49.tr (S52.tr S63)))) R R
 have f68:=f11.stp (S17.tr (S38.tr (S49.tr (S52.tr S63)))) R R
 have f69:=f12.stp (S17.tr (S38.tr (S49.tr (S52.tr S63)))) R R
 refine Jh R R R C83 (i_partOf_ok (κ:=fun b=>mp [] 0 (K62 b)) (p0:=p0) (p1:=p1) (Jl2 f67 (mp [] 0) R R) (Jl2 f68 (mp [] 0) R R) (Jl2 f69 (mp [] 0) R R) (Jl2 (f56.stp S63 R R) (mp [] 0) R R) (Jl2 (f57.stp S63 R R) (mp [] 0) R R) hx27) ?_
 rintro _ w72 ⟨k73,ao,am,rfl,e74,f75⟩
 obtain⟨K76,S77,m78⟩:=Ji e74 9 R
 refine⟨((S63.tr S77).cl R),Ob h fun x28 hx28 h=>Jh R R R C81 (i_winsBy_ok (κ:=fun b=>mp [] 0 (K76 b)) (p0:=p0) (Jl2 (f67.stp S77 R R) (mp [] 0) R R) (Jl2 (f68.stp S77 R R) (mp [] 0) R R) (Jl2 (f69.stp S77 R R) (mp [] 0) R R) (Jl2 ((f61.mx (no_int _) m64 R (R:6+2=8)).stp S77 R R).rdc (mp [] 0) R R) (Jl2 (f75.mx (no_int _) m78 R (R:9+2=11)).rdc (mp [] 0) R R) hx28) ?_⟩
 rintro _ w85 ⟨k86,rfl,e87⟩
 obtain⟨K88,S89,m90⟩:=Ji e87 12 R
 refine⟨((S63.tr (S77.tr S89)).cl R),Jn 1 R (Jt1 (Jd ?_))⟩
 revert h
 cases ht92:(!x28)
 refine JF fun h=>Jy R (Js (Jz (Jp (Ja [2,2,2] R (Jc 3 R ?_)))))
 cases h
 exact Jz1 fun a ha=>⟨k,_,Ja3 _,⟨K88,((IntKind.i64.wrap (s1+1)):Int),R,(S49.tr (S52.tr (S63.tr (S77.tr S89)))).wk R,hk50⟩,(ha.mm R)⟩
 refine JT fun h=>Jx R (Je [2] R (Jb 1 R (Ju (Ja1 (Jw (Jw ?_))))))
 cases h
 obtain rfl:=Option.some.inj hk50
 have h:=hK42
 dsimp only[aft]at h
 refine Ja1 (Jq2 (Jw (Ja2 (l:=[.tmp 4]) V41 (Jp2 R R) R ?_)))
 cases h
 exact⟨K88,R,(hE.stp (S3.tr (S7.tr (S17.tr (S38.tr (S49.tr (S52.tr (S63.tr (S77.tr S89)))))))) R R)⟩
 rintro _ w44 ⟨K45,s3,rfl,S46,rfl⟩
 have h:=hK42
 dsimp only[aft]at h
 refine Jp (Je [2] R (Jb 1 R (Ju (Ja2 (l:=[.tmp 4]) V41 (Jp2 R R) R ?_))))
 cases h
 exact⟨K45,R,(hE.stp (S3.tr (S7.tr (S17.tr (S38.tr S46)))) R R)⟩
 refine JT fun h=>Jx R (Je [2] R (Jb 1 R (Ju (Jw (Ja2 (l:=[.tmp 4]) V41 (Jp2 R R) R ?_)))))
 cases h
 exact⟨K37,R,(hE.stp (S3.tr (S7.tr (S17.tr S38))) R R)⟩
theorem i_Solved_ok {w:World}{κ:Col}{aa ad ab ac ae af}{p0:Parity}(g0_0_0:Rd (Rp.int .i64) κ w 0 aa ad p0.Arena.Owner) (g0_0_1:Rd (Rp.sl (Rp.int .i64)) κ w 0 ab ac p0.Arena.Next) (g0_1:Rd (Rp.int .i64) κ w 0 ae af p0.Prio){r:Answer}(h:i_Solved p0=some r):Ret Tryz.prog 43 [.agg #[.slice aa p0.Arena.Owner.length ad,.slice ab p0.Arena.Next.length ac,.slice ae p0.Prio.length af]] w (fun v w'=>∃(κ':Col) (ra0:Option Addr) (ru0:Nat) (ra1:Option Addr) (ru1:Nat),v= .agg #[.slice ra0 r.Won.length ru0,.slice ra1 r.Plan.length ru1]∧Ent κ w κ' w'∧Oc E6 2 κ' w' 2 ra0 ru0 r.Won∧Oc E6 2 κ' w' 3 ra1 ru1 r.Plan):=by
 unfold i_Solved at h
 refine Ret.enter F43 R N43 R ?_
 dsimp only[envOf]
 have hE:=Ent.refl κ w
 refine Je [1,1] R (Jf1 (κ:=κ) 2 R R R R R R R fun b1 w1 K2 S3 f4=>⟨tv,Jg1 (κ:=K2) 3 R R R R R X34 R fun b2 w5 K6 S7 f8=>⟨tv,Jd (Jq (Je [1,1,2] R ?_))⟩⟩)
 have f9:=f4.stp S7 R R
 refine Jl tv R R R R (Jd2 (cs:=[.slice aa p0.Arena.Owner.length ad,.slice ab p0.Arena.Next.length ac,.slice ae p0.Prio.length af]) I39 Z39 R R R (haE f9.cells)) (Ob h fun x4 hx4 h=>?_)
 have f10:=g0_0_0.stp (S3.tr S7) R R
 have f11:=g0_0_1.stp (S3.tr S7) R R
 have f12:=g0_1.stp (S3.tr S7) R R
 refine Jh R R R C54 (i_ParityOk_ok (κ:=fun b=>mp [] 0 (K6 b)) (p0:=p0) (Jl2 f10 (mp [] 0) R R) (Jl2 f11 (mp [] 0) R R) (Jl2 f12 (mp [] 0) R R) hx4) ?_
 rintro _ w13 ⟨k14,rfl,e15⟩
 obtain⟨K16,S17,m18⟩:=Ji e15 4 R
 refine⟨tv,Jb 1 R ?_⟩
 revert h
 cases ht20:(!x4)
 refine JF fun h=>Jy R (Js (Jp (Jq (Js1 (κ:=K16) [2] none [(1,2),(0,0),(2,0),(4,0),(3,1),(5,1),(6,1),(7,1)] [] (by kernel_rfl) (by kernel_rfl) fun w27 S26=>Jf R (Jb2 U39 R Z37 R R) ?_))))
 have f28:=f9.stp (S17.tr S26) R R
 refine Jg R (Jd2 (cs:=[.slice aa p0.Arena.Owner.length ad,.slice ab p0.Arena.Next.length ac,.slice ae p0.Prio.length af]) I39 Z39 R R R (haC f28.cells R)) (Jg R (Jd2 (cs:=[.slice aa p0.Arena.Owner.length ad,.slice ab p0.Arena.Next.length ac]) I37 Z37 R R R (haC (f28.lds 0 2 R) R)) (Jg R (Jd2 (cs:=[.slice aa p0.Arena.Owner.length ad,.slice ab p0.Arena.Next.length ac,.slice ae p0.Prio.length af]) I39 Z39 R R R (haC f28.cells R)) (Ob h fun x10 hx10 h=>?_)))
 have f29:=f10.stp (S17.tr S26) R R
 have f30:=f11.stp (S17.tr S26) R R
 refine Jh R R R C88 (i_noPlan_ok (κ:=fun b=>mp [] 0 (K16 b)) (p0:=p0.Arena) (Jl2 f29 (mp [] 0) R R) (Jl2 f30 (mp [] 0) R R) hx10) ?_
 rintro _ w31 ⟨k32,am,ao,rfl,e33,f34⟩
 obtain⟨K35,S36,m37⟩:=Ji e33 6 R
 refine⟨(S36.cl R),Ob h fun x12 hx12 h=>?_⟩
 have f40:=f29.stp S36 R R
 have f41:=f30.stp S36 R R
 have f42:=f12.stp (S17.tr (S26.tr S36)) R R
 refine Jh R R R C61 (i_winners_ok (κ:=fun b=>mp [] 0 (K35 b)) (p0:=p0) (Jl2 f40 (mp [] 0) R R) (Jl2 f41 (mp [] 0) R R) (Jl2 f42 (mp [] 0) R R) hx12) ?_
 rintro _ w43 ⟨k44,an,al,rfl,e45,f46⟩
 obtain⟨K47,S48,m49⟩:=Ji e45 9 R
 refine⟨((S36.tr S48).cl R),Ob h fun x13 hx13 h=>Jh R R R C87 (i_planFrom_ok (κ:=fun b=>mp [] 0 (K47 b)) (p0:=p0) (Jl2 (f40.stp S48 R R) (mp [] 0) R R) (Jl2 (f41.stp S48 R R) (mp [] 0) R R) (Jl2 (f42.stp S48 R R) (mp [] 0) R R) (Jl2 ((f34.mx (no_int _) m37 R (R:6+2=8)).stp S48 R R).rdc (mp [] 0) R R) (Jl2 (f46.mx (no_int _) m49 R (R:9+2=11)).rdc (mp [] 0) R R) hx13) ?_⟩
 rintro _ w56 ⟨k57,aj,ak,ai,ah,rfl,e58,f59,f60⟩
 obtain⟨K61,S62,m63⟩:=Ji e58 12 R
 refine⟨((S36.tr (S48.tr S62)).cl R),Jj1 (κ:=K61) 3 (vc:=[.slice aj x13.Won.length ak,.slice ai x13.Plan.length ah]) R R R R R R R Z34 R R (f8.stp (S17.tr (S26.tr (S36.tr (S48.tr S62)))) R R) R fun w68 S69 f70=>⟨((S36.tr (S48.tr (S62.tr S69))).cl R),Jt1 (Jd (Ju (Ja2 (l:=[.cell 2 34]) V43 (res_cellA R f70 I34 Z34 R R) R ?_)))⟩⟩
 cases h
 exact⟨(fun b=>ren [(14,2),(15,3)] (K61 b)),aj,ak,ai,ah,R,((hE.stp (S3.tr (S7.tr (S17.tr (S26.tr (S36.tr (S48.tr (S62.tr S69))))))) R R).map (ren [(14,2),(15,3)]) R R),(((f59.mx (no_int _) m63 R (R:12+2=14)).stp S69 R R).map (ren [(14,2),(15,3)]) R R),(((f60.mx (no_int _) m63 R (R:12+3=15)).stp S69 R R).map (ren [(14,2),(15,3)]) R R)⟩
 refine JT fun h=>Jx R (Je [2,1] R (Jf R (rn_build (parts:=[]) (cells:=[.slice none 0 0,.slice none 0 0]) R R (by kernel_rfl)) (Jj1 (κ:=K16) 3 (vc:=[.slice none 0 0,.slice none 0 0]) R R R R R R R Z34 R R (f8.stp S17 R R) R fun w22 S23 f24=>⟨tv,Jd (Ju (Jw (Ja2 (l:=[.cell 2 34]) V43 (res_cellA R f24 I34 Z34 R R) R ?_)))⟩)))
 cases h
 exact⟨K16,none,0,none,0,R,(hE.stp (S3.tr (S7.tr (S17.tr S23))) R R),Ow.nil,Ow.nil⟩
theorem s_l6Form_ok {w:World}{κ:Col}{aa af ab ac ad ae}{p0:Parity}{aj ak ah ai}{p1:Answer}(g0_0_0:Rd (Rp.int .i64) κ w 0 aa af p0.Arena.Owner) (g0_0_1:Rd (Rp.sl (Rp.int .i64)) κ w 0 ab ac p0.Arena.Next) (g0_1:Rd (Rp.int .i64) κ w 0 ad ae p0.Prio) (g1_0:Rd (Rp.int .i64) κ w 0 aj ak p1.Won) (g1_1:Rd (Rp.int .i64) κ w 0 ah ai p1.Plan){r:Bool}(h:s_l6Form p0 p1=some r):Ret Tryz.prog 62 [.agg #[.slice aa p0.Arena.Owner.length af,.slice ab p0.Arena.Next.length ac,.slice ad p0.Prio.length ae],.agg #[.slice aj p1.Won.length ak,.slice ah p1.Plan.length ai]] w (fun v w'=>∃(κ':Col),v= .bool r∧Ent κ w κ' w'):=by
 unfold s_l6Form at h
 refine Ret.enter F62 R N62 R ?_
 dsimp only[envOf]
 have hE:=Ent.refl κ w
 refine Je [1,1,2] R (Jf1 (κ:=κ) 2 R R R R R R R fun b2 w1 K2 S3 f4=>⟨tv,Jf1 (κ:=K2) 3 R R R R R R R fun b3 w5 K6 S7 f8=>⟨tv,Jb 1 R (Jq (Je [1,1,2,2,2,1,2,2,1,2,2,2,2,2,1,2,2,1,2,2,2] R ?_))⟩⟩)
 have f9:=f4.stp S7 R R
 refine Jl tv R R R R (Jd2 (cs:=[.slice aa p0.Arena.Owner.length af,.slice ab p0.Arena.Next.length ac,.slice ad p0.Prio.length ae]) I39 Z39 R R R (haE f9.cells)) (Ob h fun x8 hx8 h=>?_)
 have f10:=g0_0_0.stp (S3.tr S7) R R
 have f11:=g0_0_1.stp (S3.tr S7) R R
 refine Jh R R R C55 (s_ParityOk_ok (κ:=fun b=>mp [] 0 (K6 b)) (p0:=p0) (Jl2 f10 (mp [] 0) R R) (Jl2 f11 (mp [] 0) R R) (Jl2 (g0_1.stp (S3.tr S7) R R) (mp [] 0) R R) hx8) ?_
 rintro _ w13 ⟨k14,rfl,e15⟩
 obtain⟨K16,S17,m18⟩:=Ji e15 4 R
 refine⟨tv,Jn 2 R (Ob h fun p18 h hK20=>Ju1 [(4,2),(5,1),(6,2),(7,2),(8,1),(9,2),(10,2),(11,2)] [(12,2),(13,2),(14,1),(15,2),(16,2),(17,1),(18,2),(19,2),(20,2)] (fun L w'=>L=[(2,.pointer (some ⟨b2,0,none⟩)),(3,.pointer (some ⟨b3,0,none⟩)),(18,.bool p18)]∧∃κ',Stp [] K16 w13 κ' w') tv ?_ ?_)⟩
 revert h
 cases ht21:(!x8)
 refine JF fun h=>Jf R (Jb2 U34 R Z22 R R) (Jl tv R R R R (Jc2 I22 R R (hvE ((f8.stp S17 R R).ld 0 R R))) (Jf R (Je2 U22 R R) (Jf R (Jb2 U39 R Z22 R R) (Jl tv R R R R (Jc2 I22 R R (hvE ((f9.stp S17 R R).ld 2 R R))) (Jf R (Je2 U22 R R) (Jn 2 R ?_))))))
 cases h
 exact Jv1 _ tv ⟨R,_,(Jx2 _ _).wk R⟩ (KM R)
 refine JT fun h=>Jn 1 R (Jd1 R R R R (Jn 2 R (Jd1 R R R R (Jn 3 R ?_))))
 cases h
 exact Jv1 _ tv ⟨R,_,(Jx2 _ _).wk R⟩ (KM R)
 rintro _ w24 _ ⟨rfl,K25,S26⟩
 have h:=hK20
 refine Jn 1 R (Ob h fun p27 h hK27=>Ju1 [(13,2),(14,1),(15,2),(16,2),(17,1),(18,2),(19,2),(20,2)] [] (fun L w'=>L=[(2,.pointer (some ⟨b2,0,none⟩)),(3,.pointer (some ⟨b3,0,none⟩)),(27,.bool p27)]∧∃κ',Stp [] K25 w24 κ' w') tv ?_ ?_)
 revert h
 cases ht28:p18
 refine JF fun h=>Jf R (Jb2 U34 R Z22 R R) (Jl tv R R R R (Jc2 I22 R R (hvE ((f8.stp (S17.tr S26) R R).ld 1 R R))) (Jf R (Je2 U22 R R) (Jf R (Jb2 U39 R Z22 R R) (Jl tv R R R R (Jc2 I22 R R (hvE ((f9.stp (S17.tr S26) R R).ld 2 R R))) (Jf R (Je2 U22 R R) (Jn 2 R ?_))))))
 cases h
 exact Jv1 _ tv ⟨R,_,(Jx2 _ _).wk R⟩ (KM R)
 refine JT fun h=>Jn 1 R (Jd1 R R R R (Jn 2 R (Jd1 R R R R (Jn 3 R ?_))))
 cases h
 exact Jv1 _ tv ⟨R,_,(Jx2 _ _).wk R⟩ (KM R)
 rintro _ w31 _ ⟨rfl,K32,S33⟩
 have h:=hK27
 refine Jd ?_
 revert h
 cases ht34:p27
 refine JF fun h=>Jy R (Js (Jp (Jq (Je [2] R (Jb 1 R ?_)))))
 have hN36:(p1.Won.length:Int)≤9223372036854775807:=g1_0.len_le
 refine Ob h fun q2 hq38 hK37=>?_
 clear h
 refine Jx1 (fun L w'=>∃κ',L=[]∧Stp [] K32 w31 κ' w'∧q2=Sum.inr ()) ?_ ?_
 refine Jv (Jy1 (fun k L w'=>∃κ' v5,L=[(2,.pointer (some ⟨b2,0,none⟩)),(3,.pointer (some ⟨b3,0,none⟩)),(5,vi v5)]∧Stp [] K32 w31 κ' w'∧0≤v5∧Int.toNat ((p1.Won.length:Int)-v5)=k∧cntM (s_l6Form_b0 p0 p1) k v5 ()=some q2) ⟨_,_,⟨K32,0,R,(Jx2 _ _).wk R,(by decide),(by simp),hq38⟩,(KM R)⟩ ?_)
 rintro k _ w42 ⟨K43,v5,rfl,S44,hj36,hJ36,h⟩
 rcases k with _ | k
 have hk45:=h;obtain⟨o36,h⟩:=ex_eq (Sum.inr (Sum.inl ()):Bool⊕((Unit)⊕(Unit)))
 have hc36:decide (v5<(p1.Won.length:Int))=false:=Jo2 (by omega)
 refine Jq (Je [2,2,1,2,2] R (Jn 1 R (Jf R (Jb2 U34 R Z22 R R) (Jl tv R R R R (Jc2 I22 R R (hvE ((f8.stp (S17.tr (S26.tr (S33.tr S44))) R R).ld 0 R R))) (Jf R (Je2 U22 R R) (Jb 1 R (Jw2 R hc36 (Jc1 (Jt (Jt ?_))))))))))
 cases h
 have h:=hk45
 refine Jb1 ?_
 cases h
 exact Jw1 _ ⟨K43,R,S44.wk R,R⟩ KN
 obtain⟨o36,h,hk45⟩:=BI h;unfold s_l6Form_b0 at h
 have hc36:decide (v5<(p1.Won.length:Int))=true:=Jn2 (by omega)
 refine Jq (Je [2,2,1,2,2] R (Jn 1 R (Jf R (Jb2 U34 R Z22 R R) ?_)))
 have f47:=f8.stp (S17.tr (S26.tr (S33.tr S44))) R R
 refine Jl tv R R R R (Jc2 I22 R R (hvE (f47.ld 0 R R))) (Jf R (Je2 U22 R R) (Jb 1 R (Jv2 R hc36 (Js (Jp (Jq (Jv (Jq (Je [2,1,2,2,1,1,2] R (Jf R (Jb2 U34 R Z22 R R) (Jl tv R R R R (Jc2 I22 R R (hvE (f47.ld 0 R R))) (Jn 1 R (Ob h fun x38 hx38 h=>Jf R (Jf2 g1_0 hx38 U22 Z2 R R R R) ?_)))))))))))))
 have f48:=g1_0.stp (S3.tr (S7.tr (S17.tr (S26.tr (S33.tr S44))))) R R
 refine Jl tv R R R R (Jc2 I2 R R (hvE (f48.gInt hx38))) (Ob h fun x40 hx40 h=>Jh R R R C75 (s_l1In_ok (κ:=fun b=>mp [] 0 (K43 b)) hx40) ?_)
 rintro _ w49 ⟨k50,rfl,e51⟩
 obtain⟨K52,S53,m54⟩:=Ji e51 6 R
 refine⟨tv,Jb 1 R ?_⟩
 revert h
 cases ht56:(!x40)
 refine JF fun h=>Jy R (Js (Jp (Jq (Js1 (κ:=K52) [0,2,3] none [(0,2),(2,2),(5,2),(6,2),(8,2),(1,0),(3,2),(4,0),(7,0),(9,2),(10,0),(11,2),(12,2)] [] (by kernel_rfl) (by kernel_rfl) fun w59 S58=>Jf R (Jb2 U34 R Z22 R R) (Jn 1 R (Jf R (Jb2 U39 R Z37 R R) (Jf R (Jb2 U37 R Z22 R R) (Jn 1 R ?_))))))))
 have f60:=f47.stp (S53.tr S58) R R
 refine Jg R (Jc2 I22 R R (hvC (f60.ld 0 R R) R)) (Ob h fun x45 hx45 h=>Jf R (Jf2 f48 hx45 U22 Z2 R R R R) (Jg R (Jc2 I2 R R (hvC ((f48.stp (S53.tr S58) R R).gInt hx45) R)) ?_))
 have f62:=f9.stp (S17.tr (S26.tr (S33.tr (S44.tr (S53.tr S58))))) R R
 refine Jg R (Jc2 I22 R R (hvC (f62.ld 0 R R) R)) (Ob h fun x51 hx51 h=>Jf R (Jf2 f10 hx51 U22 Z2 R R R R) (Jg R (Jc2 I2 R R (hvC ((f10.stp (S17.tr (S26.tr (S33.tr (S44.tr (S53.tr S58))))) R R).gInt hx51) R)) (Jn 2 R (Jt1 (Jd (Jq (Js1 (κ:=K52) [0,2,3] none [(0,2),(1,2),(3,2),(2,0),(4,2),(5,0),(6,2),(7,2),(8,2),(9,2),(10,2),(11,2),(12,2),(14,2),(17,2),(19,2),(13,0),(15,2),(16,0),(18,0),(20,2),(21,0),(22,1),(23,2),(24,2),(25,2)] [] (by kernel_rfl) (by kernel_rfl) fun w65 S64=>Jn 1 R (Jf R (Jb2 U34 R Z22 R R) (Jn 1 R ?_)))))))))
 have f66:=f60.stp S64 R R
 refine Jg R (Jc2 I22 R R (hvC (f66.ld 1 R R) R)) (Ob h fun x58 hx58 h=>Jf R (Jf2 g1_1 hx58 U22 Z2 R R R R) ?_)
 have f67:=g1_1.stp (S3.tr (S7.tr (S17.tr (S26.tr (S33.tr (S44.tr (S53.tr (S58.tr S64)))))))) R R
 refine Jg R (Jc2 I2 R R (hvC (f67.gInt hx58) R)) (Jn 1 R (Jf R (rn_neqB R R U4 R) (Jn 1 R (Ob h fun p79 h hK68=>Ju1 [(9,2),(10,2),(11,2),(12,2),(14,2),(17,2),(19,2),(13,0),(15,2),(16,0),(18,0),(20,2),(21,0),(22,1),(23,2),(24,2),(25,2)] [] (fun L w'=>L=[(2,.pointer (some ⟨b2,0,none⟩)),(3,.pointer (some ⟨b3,0,none⟩)),(5,vi v5),(79,.bool p79)]∧∃κ',Stp [] K52 w65 κ' w') (Cl.refl _ _ _) ?_ ?_))))
 revert h
 cases ht69:((x45==x51) !=(x58 !=(-1)))
 refine JF fun h=>Jn 2 R (Ob h fun p78 h hK70=>Ju1 [(11,2),(12,2),(14,2),(17,2),(19,2),(13,0),(15,2),(16,0),(18,0),(20,2),(21,0),(22,1),(23,2),(24,2)] [(25,2)] (fun L w'=>L=[(2,.pointer (some ⟨b2,0,none⟩)),(3,.pointer (some ⟨b3,0,none⟩)),(5,vi v5),(62,.bool false),(63,.bool (x45==x51)),(64,.bool (x45==x51)),(78,.bool p78)]∧∃κ',Stp [] K52 w65 κ' w') (Cl.refl _ _ _) ?_ ?_)
 revert h
 cases ht71:(x45==x51)
 refine JF fun h=>Jn 5 R (Je1 R R R R (Jn 1 R (Je1 R R R R (Je1 R R R R (Jn 1 R (Je1 R R R R (Jd1 R R R R (Jn 2 R ?_))))))))
 cases h
 exact Jv1 _ (Cl.refl _ _ _) ⟨R,_,(Jx2 _ _).wk R⟩ (KM R)
 refine JT fun h=>Jf R (Jb2 U39 R Z37 R R) (Jf R (Jb2 U37 R Z23 R R) (Jn 1 R (Jf R (Jb2 U34 R Z22 R R) (Jn 1 R (Jg R (Jc2 I23 R R (hvC ((f62.stp S64 R R).ld 1 R R) R)) (Ob h fun x69 hx69 h=>Jf R (Jf2 f11 hx69 U23 Z22 R R R R) ?_))))))
 obtain⟨ax69,ux69,f74,hl75⟩:=(f11.stp (S17.tr (S26.tr (S33.tr (S44.tr (S53.tr (S58.tr S64)))))) R R).gSl hx69
 refine Jg R (Jc2 I22 R R (hvC hl75 R)) (Jg R (Jc2 I22 R R (hvC (f66.ld 1 R R) R)) (Ob h fun x74 hx74 h=>Jf R (Jf2 f67 hx74 U22 Z2 R R R R) (Jg R (Jc2 I2 R R (hvC (f67.gInt hx74) R)) (Ob h fun x76 hx76 h=>Jh R R R C103 (s_l1Has_ok (κ:=fun b=>mp [] 0 (K52 b)) (Jl2 f74 (mp [] 0) R R) hx76) ?_))))
 rintro _ w76 ⟨k77,rfl,e78⟩
 obtain⟨K79,S80,m81⟩:=Ji e78 8 R
 refine⟨(S80.cl R),Jn 2 R ?_⟩
 cases h
 exact Jv1 _ (S80.cl R) ⟨R,_,S80.wk R⟩ (KM R)
 rintro _ w83 _ ⟨rfl,K84,S85⟩
 have h:=hK70
 refine Jn 1 R ?_
 cases h
 exact Jv1 _ (S85.cl R) ⟨R,_,S85.wk R⟩ (KM R)
 refine JT fun h=>Jn 7 R (Je1 R R R R (Jn 1 R (Je1 R R R R (Je1 R R R R (Jn 1 R (Je1 R R R R (Jd1 R R R R (Jn 3 R ?_))))))))
 cases h
 exact Jv1 _ (Cl.refl _ _ _) ⟨R,_,(Jx2 _ _).wk R⟩ (KM R)
 rintro _ w86 _ ⟨rfl,K87,S88⟩
 have h:=hK68
 refine Jt1 (Jd ?_)
 revert h
 cases ht89:p79
 refine JF fun h=>Jy R (Js (Jz (Jp (Ja [2,2,2] R (Jc 3 R ?_)))))
 have hw36:IntKind.wrap .i64 (v5+1)=v5+1:=wr1 hj36 (Jm2 hc36) hN36
 rw[hw36]
 have hc36:=Jm2 hc36
 cases h
 exact Jz1 fun a ha=>⟨k,_,Ja3 _,⟨K87,v5+1,R,(S44.tr (S53.tr (S58.tr (S64.tr S88)))).wk R,by omega,by omega,hk45⟩,(ha.mm R)⟩
 refine JT fun h=>Jx R (Je [2] R (Jb 1 R (Ju (Ja1 (Jw (Jw ?_))))))
 cases h
 obtain rfl:=Option.some.inj hk45
 have h:=hK37
 dsimp only[aft]at h
 refine Ja1 (Jq2 (Jw (Ja2 (l:=[.tmp 4]) V62 (Jp2 R R) R ?_)))
 cases h
 exact⟨K87,R,(hE.stp (S3.tr (S7.tr (S17.tr (S26.tr (S33.tr (S44.tr (S53.tr (S58.tr (S64.tr S88))))))))) R R)⟩
 refine JT fun h=>Jx R (Je [2] R (Jb 1 R (Ju (Jw (Ja1 (Jw (Jw ?_)))))))
 cases h
 obtain rfl:=Option.some.inj hk45
 have h:=hK37
 dsimp only[aft]at h
 refine Ja1 (Jq2 (Jw (Ja2 (l:=[.tmp 4]) V62 (Jp2 R R) R ?_)))
 cases h
 exact⟨K52,R,(hE.stp (S3.tr (S7.tr (S17.tr (S26.tr (S33.tr (S44.tr S53)))))) R R)⟩
 rintro _ w39 ⟨K40,rfl,S41,rfl⟩
 have h:=hK37
 dsimp only[aft]at h
 refine Jp (Je [2] R (Jb 1 R (Ju (Ja2 (l:=[.tmp 4]) V62 (Jp2 R R) R ?_))))
 cases h
 exact⟨K40,R,(hE.stp (S3.tr (S7.tr (S17.tr (S26.tr (S33.tr S41))))) R R)⟩
 refine JT fun h=>Jx R (Je [2] R (Jb 1 R (Ju (Jw (Ja2 (l:=[.tmp 4]) V62 (Jp2 R R) R ?_)))))
 cases h
 exact⟨K32,R,(hE.stp (S3.tr (S7.tr (S17.tr (S26.tr S33)))) R R)⟩
theorem s_ClosedIn_ok {w:World}{κ:Col}{af ac ad ae}{p0:Arena}{p1:Int}{a2 u2}{p2:(List Int)}{a3 u3}{p3:(List Int)}(g0_0:Rd (Rp.int .i64) κ w 0 af ac p0.Owner) (g0_1:Rd (Rp.sl (Rp.int .i64)) κ w 0 ad ae p0.Next) (g2:Rd (Rp.int .i64) κ w 0 a2 u2 p2) (g3:Rd (Rp.int .i64) κ w 0 a3 u3 p3){r:Bool}(h:s_ClosedIn p0 p1 p2 p3=some r):Ret Tryz.prog 105 [.agg #[.slice af p0.Owner.length ac,.slice ad p0.Next.length ae],vi p1,.slice a2 p2.length u2,.slice a3 p3.length u3] w (fun v w'=>∃(κ':Col),v= .bool r∧Ent κ w κ' w'):=by
 unfold s_ClosedIn at h
 refine Ret.enter F105 R N105 R ?_
 dsimp only[envOf]
 have hE:=Ent.refl κ w
 refine Je [1,2] R (Jf1 (κ:=κ) 2 R R R R R R R fun b4 w1 K2 S3 f4=>⟨tv,Jb 1 R (Jq (Je [1,2,2,1,2,2,2,2,1,2,1,2,2] R (Jl tv R R R R (Jd2 (cs:=[.slice af p0.Owner.length ac,.slice ad p0.Next.length ae]) I37 Z37 R R R (haE f4.cells)) (Jn 2 R (Ob h fun x16 hx16 h=>?_)))))⟩)
 have f5:=g0_0.stp S3 R R
 have f6:=g0_1.stp S3 R R
 have f7:=g3.stp S3 R R
 refine Jh R R R C135 (s_PlanOk_ok (κ:=fun b=>mp [] 0 (K2 b)) (p0:=p0) (Jl2 f5 (mp [] 0) R R) (Jl2 f6 (mp [] 0) R R) (Jl2 f7 (mp [] 0) R R) hx16) ?_
 rintro _ w8 ⟨k9,rfl,e10⟩
 obtain⟨K11,S12,m13⟩:=Ji e10 3 R
 refine⟨tv,Jn 2 R (Ob h fun p25 h hK15=>Ju1 [(6,2),(7,2),(8,1),(9,2),(10,1),(11,2),(12,2)] [] (fun L w'=>L=[(1,vi p1),(2,.slice a2 p2.length u2),(3,.slice a3 p3.length u3),(4,.pointer (some ⟨b4,0,none⟩)),(25,.bool p25)]∧∃κ',Stp [] K11 w8 κ' w') tv ?_ ?_)⟩
 revert h
 cases ht16:(!x16)
 refine JF fun h=>Jn 1 R (Jf R (Jb2 U37 R Z22 R R) (Jl tv R R R R (Jc2 I22 R R (hvE ((f4.stp S12 R R).ld 0 R R))) (Jf R (Je2 U22 R R) (Ob h fun x23 hx23 h=>Jh R R R C123 (s_l1Set_ok (κ:=fun b=>mp [] 0 (K11 b)) (Jl2 (g2.stp (S3.tr S12) R R) (mp [] 0) R R) hx23) ?_))))
 rintro _ w19 ⟨k20,rfl,e21⟩
 obtain⟨K22,S23,m24⟩:=Ji e21 5 R
 refine⟨tv,Jn 2 R ?_⟩
 cases h
 exact Jv1 _ tv ⟨R,_,S23.wk R⟩ (KM R)
 refine JT fun h=>Jn 2 R (Jd1 R R R R (Jn 1 R (Jd1 R R R R (Jn 2 R ?_))))
 cases h
 exact Jv1 _ tv ⟨R,_,(Jx2 _ _).wk R⟩ (KM R)
 rintro _ w26 _ ⟨rfl,K27,S28⟩
 have h:=hK15
 refine Jd ?_
 revert h
 cases ht29:p25
 refine JF fun h=>Jy R (Js (Jp (Je [2,2,1,2,1,2] R (Jn 1 R (Jf R (Jb2 U37 R Z22 R R) ?_)))))
 have f31:=f4.stp (S12.tr S28) R R
 refine Jl tv R R R R (Jc2 I22 R R (hvE (f31.ld 0 R R))) (Jf R (Je2 U22 R R) (Ob h fun x30 hx30 h=>?_))
 have f32:=g2.stp (S3.tr (S12.tr S28)) R R
 refine Jh R R R C136 (s_l1Marks_ok (κ:=fun b=>mp [] 0 (K27 b)) (Jl2 f32 (mp [] 0) R R) hx30) ?_
 rintro _ w33 ⟨k34,aa,ab,rfl,e35,f36⟩
 obtain⟨K37,S38,m39⟩:=Ji e35 5 R
 refine⟨tv,?_⟩
 have f41:=f36.mx no_bool m39 R (R:5+2=7)
 refine Jb 1 R (Jq (Je [2] R (Jb 1 R ?_)))
 have hN42:(p2.length:Int)≤9223372036854775807:=f32.len_le
 refine Ob h fun q2 hq44 hK43=>?_
 clear h
 refine Jx1 (fun L w'=>∃κ',L=[]∧Stp [] K37 w33 κ' w'∧q2=Sum.inr ()) ?_ ?_
 refine Jv (Jy1 (fun k L w'=>∃κ' v10,L=[(1,vi p1),(2,.slice a2 p2.length u2),(3,.slice a3 p3.length u3),(4,.pointer (some ⟨b4,0,none⟩)),(9,.slice aa x30.length ab),(10,vi v10)]∧Stp [] K37 w33 κ' w'∧0≤v10∧Int.toNat ((p2.length:Int)-v10)=k∧cntM (s_ClosedIn_b0 p0 p1 p2 p3 x30) k v10 ()=some q2) ⟨_,_,⟨K37,0,R,(Jx2 _ _).wk R,(by decide),(by simp),hq44⟩,(KM R)⟩ ?_)
 rintro k _ w48 ⟨K49,v10,rfl,S50,hj42,hJ42,h⟩
 rcases k with _ | k
 have hk51:=h;obtain⟨o42,h⟩:=ex_eq (Sum.inr (Sum.inl ()):Bool⊕((Unit)⊕(Unit)))
 have hc42:decide (v10<(p2.length:Int))=false:=Jo2 (by omega)
 refine Jq (Je [2,2,2,2] R (Jn 2 R (Jf R (Je2 U22 R R) (Jb 1 R (Jw2 R hc42 (Jc1 (Jt (Jt ?_))))))))
 cases h
 have h:=hk51
 refine Jb1 ?_
 cases h
 exact Jw1 _ ⟨K49,R,S50.wk R,R⟩ KN
 obtain⟨o42,h,hk51⟩:=BI h;unfold s_ClosedIn_b0 at h
 have hc42:decide (v10<(p2.length:Int))=true:=Jn2 (by omega)
 refine Jq (Je [2,2,2,2] R (Jn 2 R (Jf R (Je2 U22 R R) (Jb 1 R (Jv2 R hc42 (Js (Jp (Jq (Jv (Je [2,2,2,1,2] R (Jn 2 R (Ob h fun x39 hx39 h=>Jf R (Jf2 f32 hx39 U22 Z2 R R R R) (Jl tv R R R R (Jc2 I2 R R (hvE ((f32.stp (S38.tr S50) R R).gInt hx39))) (Jb 1 R (Jq (Je [2,1,2,2,1,2,2] R (Jf R (Jb2 U37 R Z22 R R) ?_)))))))))))))))))
 have f53:=f31.stp (S38.tr S50) R R
 refine Jl tv R R R R (Jc2 I22 R R (hvE (f53.ld 0 R R))) (Jn 1 R (Ob h fun x44 hx44 h=>Jf R (Jf2 f5 hx44 U22 Z2 R R R R) (Jl tv R R R R (Jc2 I2 R R (hvE ((f5.stp (S12.tr (S28.tr (S38.tr S50))) R R).gInt hx44))) (Jb 2 R ?_))))
 revert h
 cases ht55:(x44==p1)
 refine JF fun h=>Jy R (Js (Jp (Je [2] R (Jb 1 R (Ob h fun q5 hq67 hK66=>?_)))))
 clear h
 refine Jx1 (fun L w'=>∃κ' s6,L=[(1,vi p1),(2,.slice a2 p2.length u2),(3,.slice a3 p3.length u3),(4,.pointer (some ⟨b4,0,none⟩)),(9,.slice aa x30.length ab),(10,vi v10)]∧Stp [] K49 w48 κ' w'∧q5=Sum.inr s6) ?_ ?_
 refine Jv (Jy1 (fun k L w'=>∃κ' s4,L=[(1,vi p1),(2,.slice a2 p2.length u2),(3,.slice a3 p3.length u3),(4,.pointer (some ⟨b4,0,none⟩)),(9,.slice aa x30.length ab),(10,vi v10),(11,vi x39),(12,vi s4)]∧Stp [] K49 w48 κ' w'∧whileM (s_ClosedIn_b2 p0 x30 x39) k s4=some q5) ⟨_,_,⟨K49,(0:Int),R,(Jx2 _ _).wk R,hq67⟩,(KM R)⟩ ?_)
 rintro k _ w71 ⟨K72,s4,rfl,S73,h⟩
 rcases k with _ | k
 cases h
 obtain⟨o65,h,hk74⟩:=BI h;unfold s_ClosedIn_b2 at h
 refine Jq (Je [2,2,1,2,2,1,2,2] R (Jn 1 R (Jf R (Jb2 U37 R Z23 R R) ?_)))
 have f75:=f53.stp S73 R R
 refine Jl tv R R R R (Jc2 I23 R R (hvE (f75.ld 1 R R))) (Jn 1 R (Ob h fun x67 hx67 h=>Jf R (Jf2 f6 hx67 U23 Z22 R R R R) ?_))
 have f76:=f6.stp (S12.tr (S28.tr (S38.tr (S50.tr S73)))) R R
 obtain⟨ax67,ux67,f77,hl78⟩:=f76.gSl hx67
 refine Jl tv R R R R (Jc2 I22 R R (hvE hl78)) (Jf R (Je2 U22 R R) (Jb 1 R ?_))
 revert h
 cases ht79:decide (s4<(x67.length:Int))
 refine JF fun h=>Jy R (Jc1 (Jt (Jt ?_)))
 cases h
 have h:=hk74
 refine Jb1 ?_
 cases h
 exact Jw1 _ ⟨K72,(s4:Int),R,S73.wk R,R⟩ (KM R)
 refine JT fun h=>Jx R (Js (Jp (Jq (Jv (Je [2,2,1,2,2,1,2,2,1,2,1,2] R (Jn 1 R (Jf R (Jb2 U37 R Z23 R R) (Jl tv R R R R (Jc2 I23 R R (hvE (f75.ld 1 R R))) (Jn 1 R (Ob h fun x77 hx77 h=>Jf R (Jf2 f76 hx77 U23 Z22 R R R R) ?_))))))))))
 obtain⟨ax77,ux77,f80,hl81⟩:=f76.gSl hx77
 refine Jl tv R R R R (Jc2 I22 R R (hvE hl81)) (Jn 1 R (Ob h fun x80 hx80 h=>Jf R (Jf2 f80 hx80 U22 Z2 R R R R) (Jl tv R R R R (Jc2 I2 R R (hvE (f80.gInt hx80))) (Ob h fun x82 hx82 h=>Jf R (Jf2 f41.rdc hx82 U70 Z4 R R R R) (Jl tv R R R R (Jc2 I4 R R (hvE ((f41.stp (S50.tr S73) R R).rdc.gBool hx82))) (Jb 1 R ?_))))))
 revert h
 cases ht83:(!x82)
 refine JF fun h=>Jy R (Js (Jz (Jp (Ja [2,2,2] R (Jc 3 R ?_)))))
 cases h
 exact Jz1 fun a ha=>⟨k,_,Ja3 _,⟨K72,((IntKind.i64.wrap (s4+1)):Int),R,S73.wk R,hk74⟩,(ha.mm R)⟩
 refine JT fun h=>Jx R (Je [2] R (Jb 1 R (Ju (Ja1 (Jw (Jw ?_))))))
 cases h
 obtain rfl:=Option.some.inj hk74
 have h:=hK66
 dsimp only[aft]at h
 refine Ja1 (Jq2 (Ja1 (Jw (Jw ?_))))
 cases h
 obtain rfl:=Option.some.inj hk51
 have h:=hK43
 dsimp only[aft]at h
 refine Ja1 (Jq2 (Jw (Ja2 (l:=[.tmp 8]) V105 (Jp2 R R) R ?_)))
 cases h
 exact⟨K72,R,(hE.stp (S3.tr (S12.tr (S28.tr (S38.tr (S50.tr S73))))) R R)⟩
 rintro _ w68 ⟨K69,s6,rfl,S70,rfl⟩
 have h:=hK66
 dsimp only[aft]at h
 refine Jz (Jp (Ja [2,2,2] R (Jc 3 R ?_)))
 have hw42:IntKind.wrap .i64 (v10+1)=v10+1:=wr1 hj42 (Jm2 hc42) hN42
 rw[hw42]
 have hc42:=Jm2 hc42
 cases h
 exact Jz1 fun a ha=>⟨k,_,Ja3 _,⟨K69,v10+1,R,(S50.tr S70).wk R,by omega,by omega,hk51⟩,(ha.mm R)⟩
 refine JT fun h=>Jx R (Jq (Je [2,2,2,1,2,2,2,2,2,2,1,2,1,2,2] R (Jn 2 R (Ob h fun x50 hx50 h=>Jf R (Jf2 f7 hx50 U22 Z2 R R R R) ?_))))
 have f56:=f7.stp (S12.tr (S28.tr (S38.tr S50))) R R
 refine Jl tv R R R R (Jc2 I2 R R (hvE (f56.gInt hx50))) (Jn 2 R (Ob h fun p62 h hK57=>Ju1 [(6,2),(7,2),(8,2),(9,2),(10,1),(11,2),(12,1),(13,2),(14,2)] [] (fun L w'=>L=[(1,vi p1),(2,.slice a2 p2.length u2),(3,.slice a3 p3.length u3),(4,.pointer (some ⟨b4,0,none⟩)),(9,.slice aa x30.length ab),(10,vi v10),(62,.bool p62)]∧∃κ',Stp [] K49 w48 κ' w') tv ?_ ?_))
 revert h
 cases ht58:decide (x50<0)
 refine JF fun h=>Jn 3 R (Ob h fun x57 hx57 h=>Jf R (Jf2 f56 hx57 U22 Z2 R R R R) (Jl tv R R R R (Jc2 I2 R R (hvE (f56.gInt hx57))) (Ob h fun x59 hx59 h=>Jf R (Jf2 f41.rdc hx59 U70 Z4 R R R R) (Jl tv R R R R (Jc2 I4 R R (hvE ((f41.stp S50 R R).rdc.gBool hx59))) (Jn 2 R ?_)))))
 cases h
 exact Jv1 _ tv ⟨R,_,(Jx2 _ _).wk R⟩ (KM R)
 refine JT fun h=>Jn 4 R (Jd1 R R R R (Jn 1 R (Jd1 R R R R (Jn 2 R ?_))))
 cases h
 exact Jv1 _ tv ⟨R,_,(Jx2 _ _).wk R⟩ (KM R)
 rintro _ w60 _ ⟨rfl,K61,S62⟩
 have h:=hK57
 refine Jd ?_
 revert h
 cases ht63:p62
 refine JF fun h=>Jy R (Js (Jp (Jc1 (Jt (Jb1 (Jp (Ja [2,2,2] R (Jc 3 R ?_))))))))
 have hw42:IntKind.wrap .i64 (v10+1)=v10+1:=wr1 hj42 (Jm2 hc42) hN42
 rw[hw42]
 have hc42:=Jm2 hc42
 cases h
 exact Jz1 fun a ha=>⟨k,_,Ja3 _,⟨K61,v10+1,R,(S50.tr S62).wk R,by omega,by omega,hk51⟩,(ha.mm R)⟩
 refine JT fun h=>Jx R (Je [2] R (Jb 1 R (Ju (Jw (Jw (Ja1 (Jw (Jw ?_))))))))
 cases h
 obtain rfl:=Option.some.inj hk51
 have h:=hK43
 dsimp only[aft]at h
 refine Ja1 (Jq2 (Jw (Ja2 (l:=[.tmp 8]) V105 (Jp2 R R) R ?_)))
 cases h
 exact⟨K61,R,(hE.stp (S3.tr (S12.tr (S28.tr (S38.tr (S50.tr S62))))) R R)⟩
 rintro _ w45 ⟨K46,rfl,S47,rfl⟩
 have h:=hK43
 dsimp only[aft]at h
 refine Jp (Je [2] R (Jb 1 R (Ju (Ja2 (l:=[.tmp 8]) V105 (Jp2 R R) R ?_))))
 cases h
 exact⟨K46,R,(hE.stp (S3.tr (S12.tr (S28.tr (S38.tr S47)))) R R)⟩
 refine JT fun h=>Jx R (Je [2] R (Jb 1 R (Ju (Jw (Ja2 (l:=[.tmp 8]) V105 (Jp2 R R) R ?_)))))
 cases h
 exact⟨K27,R,(hE.stp (S3.tr (S12.tr S28)) R R)⟩
end Go.Proofs.YtmiilifclnanlaaGreat
