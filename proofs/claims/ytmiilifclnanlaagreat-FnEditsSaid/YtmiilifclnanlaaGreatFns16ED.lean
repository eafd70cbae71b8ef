/- The walks, part 16. By program. -/
import Derived.Test.YtmiilifclnanlaaGreatFns15ED
set_option linter.unusedVariables false
set_option linter.unusedSimpArgs false
namespace Go.Proofs.YtmiilifclnanlaaGreat
open Go Go.Wk Go.Proofs
set_option maxRecDepth 100000
set_option maxHeartbeats 1000000
theorem l_FnEdits_ok {w:World}{κ:Col}{a0 u0}{p0:(List Int)}(g0:Rd (Rp.int .u8) κ w 0 a0 u0 p0){r:Bool}(h:l_FnEdits p0=some r):Ret Tryz.prog 5 [.slice a0 p0.length u0] w (fun v w'=>∃(κ':Col),v= .bool r∧Ent κ w κ' w'):=by
 unfold l_FnEdits at h
 refine Ret.enter F5 R N5 R ?_
 dsimp only[envOf]
 have hE:=Ent.refl κ w
 refine Je [2] R (Jb 1 R (Jq (Je [2,1] R (Jn 1 R (Ob h fun x14 hx14 h=>Jh R R R C18 (l_big_ok (κ:=fun b=>mp [] 0 (κ b)) (Jl2 g0 (mp [] 0) R R) hx14) ?_)))))
 rintro _ w1 ⟨k2,rfl,e3⟩
 obtain⟨K4,S5,m6⟩:=Ji e3 2 R
 refine⟨tv,Jd ?_⟩
 revert h
 cases ht8:x14
 refine JF fun h=>Jy R (Js (Jp (Je [2,1,2,2,2,1,1,2] R (Jn 1 R (Ob h fun x17 hx17 h=>Jh R R R C31 (s_DrawEditedAll_ok (κ:=fun b=>mp [] 1 (K4 b)) (Jl2 (g0.stp S5 R R) (mp [] 1) R R) hx17) ?_)))))
 rintro _ w11 ⟨k12,aq,al,ao,aA,am,ap,aM,aL,rfl,e13,f14,f15,f16,f17⟩
 obtain⟨K18,S19,m20,z21⟩:=Jj e13 4 R
 refine⟨tv,Jn 3 R (Jg1 (κ:=K18) 10 R R R R R X39 R fun b3 w26 K27 S28 f29=>⟨tv,Jj1 (κ:=K27) 10 (vc:=[.slice aq x17.1.Arena.Owner.length al,.slice ao x17.1.Arena.Next.length aA,.slice am x17.1.Prio.length ap]) R R R R R R R Z39 R R f29 R fun w30 S31 f32=>⟨tv,Jb 1 R (Je [1,2,1,2,2,2,1,1,2] R (Jl tv R R R R (Jd2 (cs:=[.slice aq x17.1.Arena.Owner.length al,.slice ao x17.1.Arena.Next.length aA,.slice am x17.1.Prio.length ap]) I39 Z39 R R R (haE f32.cells)) (Jn 1 R (Ob h fun x23 hx23 h=>?_))))⟩⟩)⟩
 have f33:=(f14.mx z21).stp (S28.tr S31) R R
 have f34:=(f15.mx z21).stp (S28.tr S31) R R
 have f35:=(f16.mx z21).stp (S28.tr S31) R R
 have f36:=(f17.mx Edit.no42 m20 R (R:4+5=9)).stp (S28.tr S31) R R
 refine Jh R R R C32 (i_EditedAll_ok (κ:=fun b=>mp [] 0 (K27 b)) (p0:=x17.1) (Jl2 f33 (mp [] 0) R R) (Jl2 f34 (mp [] 0) R R) (Jl2 f35 (mp [] 0) R R) (Jl2 f36.rdc (mp [] 0) R R) hx23) ?_
 rintro _ w37 ⟨k38,aV,aU,aX,aP,bc,aS,rfl,e39,f40,f41,f42⟩
 obtain⟨K43,S44,m45⟩:=Ji e39 11 R
 refine⟨tv,Jn 3 R (Jg1 (κ:=K43) 16 R R R R R X39 R fun b5 w50 K51 S52 f53=>⟨tv,Jj1 (κ:=K51) 16 (vc:=[.slice aV x23.1.Arena.Owner.length aU,.slice aX x23.1.Arena.Next.length aP,.slice bc x23.1.Prio.length aS]) R R R R R R R Z39 R R f53 R fun w54 S55 f56=>⟨tv,Jb 1 R (Je [1,2,1,2,2,2,1,1,2] R ?_)⟩⟩)⟩
 have f57:=f32.stp (S44.tr (S52.tr S55)) R R
 refine Jl tv R R R R (Jd2 (cs:=[.slice aq x17.1.Arena.Owner.length al,.slice ao x17.1.Arena.Next.length aA,.slice am x17.1.Prio.length ap]) I39 Z39 R R R (haE f57.cells)) (Jn 1 R ?_)
 obtain⟨K59,S60,z61⟩:=fz_ex K51 w54 9
 have f62:=Sl.st z61 (f36.stp (S44.tr (S52.tr S55)) R R).rdc
 refine Ob h fun x29 hx29 h=>?_
 have f63:=f33.stp (S44.tr (S52.tr (S55.tr S60))) R R
 have f64:=f34.stp (S44.tr (S52.tr (S55.tr S60))) R R
 have f65:=f35.stp (S44.tr (S52.tr (S55.tr S60))) R R
 refine Jh R R R C33 (s_EditedAll_ok (κ:=fun b=>mp [] 1 (K59 b)) (p0:=x17.1) (Jl2 f63 (mp [] 1) R R) (Jl2 f64 (mp [] 1) R R) (Jl2 f65 (mp [] 1) R R) (Jl2 f62 (mp [] 1) R R) hx29) ?_
 rintro _ w66 ⟨k67,bh,aY,aR,bf,aZ,aT,rfl,e68,f69,f70,f71⟩
 obtain⟨K72,S73,m74,z75⟩:=Jj e68 17 R
 refine⟨tv,Jn 3 R (Jg1 (κ:=K72) 22 R R R R R X39 R fun b7 w79 K80 S81 f82=>⟨tv,Jj1 (κ:=K80) 22 (vc:=[.slice bh x29.1.Arena.Owner.length aY,.slice aR x29.1.Arena.Next.length bf,.slice aZ x29.1.Prio.length aT]) R R R R R R R Z39 R R f82 R fun w83 S84 f85=>⟨tv,Jb 1 R (Jq (Je [2,2,2] R (Jb 3 R ?_)))⟩⟩)⟩
 revert h
 cases ht86:(x23.2 !=x29.2)
 refine JF fun h=>Jy R (Js (Jp (Jq (Je [2,2] R (Jb 2 R ?_)))))
 revert h
 cases ht88:decide (x29.2<0)
 refine JF fun h=>Jy R (Js (Jp (Je [1,1,1,1] R ?_)))
 have f91:=f57.stp (S60.tr (S73.tr (S81.tr S84))) R R
 refine Jl tv R R R R (Jd2 (cs:=[.slice aq x17.1.Arena.Owner.length al,.slice ao x17.1.Arena.Next.length aA,.slice am x17.1.Prio.length ap]) I39 Z39 R R R (haE f91.cells)) (Ob h fun x42 hx42 h=>?_)
 have f92:=f63.stp (S73.tr (S81.tr S84)) R R
 have f93:=f64.stp (S73.tr (S81.tr S84)) R R
 have f94:=f65.stp (S73.tr (S81.tr S84)) R R
 refine Jh R R R C24 (s_Solved_ok (κ:=fun b=>mp [] 0 (K80 b)) (p0:=x17.1) (Jl2 f92 (mp [] 0) R R) (Jl2 f93 (mp [] 0) R R) (Jl2 f94 (mp [] 0) R R) hx42) ?_
 rintro _ w95 ⟨k96,bi,bd,bg,ba,rfl,e97,f98,f99⟩
 obtain⟨K100,S101,m102⟩:=Ji e97 23 R
 refine⟨tv,Jg1 (κ:=K100) 27 R R R R R X34 R fun b9 w106 K107 S108 f109=>⟨tv,Jj1 (κ:=K107) 27 (vc:=[.slice bi x42.Won.length bd,.slice bg x42.Plan.length ba]) R R R R R R R Z34 R R f109 R fun w110 S111 f112=>⟨tv,Jd (Jq (Je [2] R (Jb 1 R (Ob h fun q2 hq115 hK114=>?_))))⟩⟩⟩
 clear h
 refine Jx1 (fun L w'=>∃κ',∃s3:Int×(List Int)×(List (List Int))×(List Int)×(List Int)×(List Int),∃aI aB aC aE aJ aG aH aF aK aD,L=[(3,.pointer (some ⟨b3,0,none⟩)),(5,.pointer (some ⟨b5,0,none⟩)),(7,.pointer (some ⟨b7,0,none⟩)),(9,.pointer (some ⟨b9,0,none⟩))]∧Stp [10,27,28,29,30,31,32,33,34,35] K107 w110 κ' w'∧Rd (Rp.int .i64) κ' w' 0 aI aB s3.2.1∧Rd (Rp.sl (Rp.int .i64)) κ' w' 0 aC aE s3.2.2.1∧Rd (Rp.int .i64) κ' w' 0 aJ aG s3.2.2.2.1∧Oc E6 2 κ' w' 25 aH aF s3.2.2.2.2.1∧Oc E6 2 κ' w' 26 aK aD s3.2.2.2.2.2∧Bc κ' w' 10 b3 39 [.slice aI s3.2.1.length aB,.slice aC s3.2.2.1.length aE,.slice aJ s3.2.2.2.1.length aG]∧Bc κ' w' 27 b9 34 [.slice aH s3.2.2.2.2.1.length aF,.slice aK s3.2.2.2.2.2.length aD]∧q2=Sum.inr s3) ?_ ?_
 have S001:=(S101.tr (S108.tr S111))
 refine Jv (Jy1 (fun k L w'=>∃κ',∃s1:Int×(List Int)×(List (List Int))×(List Int)×(List Int)×(List Int),∃ab aj af aa ai ah an ax ar ay,L=[(3,.pointer (some ⟨b3,0,none⟩)),(4,.slice aM x17.2.length aL),(5,.pointer (some ⟨b5,0,none⟩)),(7,.pointer (some ⟨b7,0,none⟩)),(8,vi x29.2),(9,.pointer (some ⟨b9,0,none⟩)),(10,vi s1.1)]∧Stp [10,27,28,29,30,31,32,33,34,35] K107 w110 κ' w'∧Rd (Rp.int .i64) κ' w' 0 ab aj s1.2.1∧Rd (Rp.sl (Rp.int .i64)) κ' w' 0 af aa s1.2.2.1∧Rd (Rp.int .i64) κ' w' 0 ai ah s1.2.2.2.1∧Oc E6 2 κ' w' 25 an ax s1.2.2.2.2.1∧Oc E6 2 κ' w' 26 ar ay s1.2.2.2.2.2∧Bc κ' w' 10 b3 39 [.slice ab s1.2.1.length aj,.slice af s1.2.2.1.length aa,.slice ai s1.2.2.2.1.length ah]∧Bc κ' w' 27 b9 34 [.slice an s1.2.2.2.2.1.length ax,.slice ar s1.2.2.2.2.2.length ay]∧whileM (l_FnEdits_b0 x17 x29) k s1=some q2) ⟨_,_,⟨K107,((0:Int),(x17.1.Arena.Owner:(List Int)),(x17.1.Arena.Next:(List (List Int))),(x17.1.Prio:(List Int)),(x42.Won:(List Int)),(x42.Plan:(List Int))),aq,al,ao,aA,am,ap,bi,bd,bg,ba,R,(Jx2 _ _).wk R,(f92.stp S001 R R),(f93.stp S001 R R),(f94.stp S001 R R),((f98.mx (no_int _) m102 R (R:23+2=25)).stp (S108.tr S111) R R),((f99.mx (no_int _) m102 R (R:23+3=26)).stp (S108.tr S111) R R),(f91.stp S001 R R),f112,hq115⟩,(KM R)⟩ ?_)
 rintro k _ w126 ⟨K127,s1,ab,aj,af,aa,ai,ah,an,ax,ar,ay,rfl,S128,f129,f130,f131,f132,f133,f134,f135,h⟩
 rcases k with _ | k
 cases h
 obtain⟨o113,h,hk142⟩:=BI h;unfold l_FnEdits_b0 at h
 refine Jq (Je [2,2,2,2,2,2,2] R (Jn 4 R (Ob h fun p49 h hK143=>Ju1 [(4,2),(5,2),(6,2)] [] (fun L w'=>L=[(3,.pointer (some ⟨b3,0,none⟩)),(4,.slice aM x17.2.length aL),(5,.pointer (some ⟨b5,0,none⟩)),(7,.pointer (some ⟨b7,0,none⟩)),(8,vi x29.2),(9,.pointer (some ⟨b9,0,none⟩)),(10,vi s1.1),(49,.bool p49)]∧∃κ',Stp [] K127 w126 κ' w') tv ?_ ?_)))
 revert h
 cases ht144:decide (s1.1<x29.2)
 refine JF fun h=>Jn 3 R ?_
 cases h
 exact Jv1 _ tv ⟨R,_,(Jx2 _ _).wk R⟩ (KM R)
 refine JT fun h=>Jn 3 R ?_
 cases h
 exact Jv1 _ tv ⟨R,_,(Jx2 _ _).wk R⟩ (KM R)
 rintro _ w145 _ ⟨rfl,K146,S147⟩
 have h:=hK143
 refine Jd ?_
 revert h
 cases ht148:p49
 refine JF fun h=>Jy R (Jc1 (Jt (Jt ?_)))
 cases h
 have h:=hk142
 refine Jb1 ?_
 cases h
 exact Jw1 _ ⟨K146,((s1.1:Int),(s1.2.1:(List Int)),(s1.2.2.1:(List (List Int))),(s1.2.2.2.1:(List Int)),(s1.2.2.2.2.1:(List Int)),(s1.2.2.2.2.2:(List Int))),ab,aj,af,aa,ai,ah,an,ax,ar,ay,R,(S128.tr S147).wk R,(f129.stp S147 R R),(f130.stp S147 R R),(f131.stp S147 R R),(f132.stp S147 R R),(f133.stp S147 R R),(f134.stp S147 R R),(f135.stp S147 R R),R⟩ (KM R)
 refine JT fun h=>Jx R (Js (Jp (Jq (Jv (Jq (Ob h fun x57 hx57 h=>Ob h fun x59 hx59 h=>Jx1 (fun L w'=>∃κ' b11 ae ak ad ac,L=[(3,.pointer (some ⟨b3,0,none⟩)),(4,.slice aM x17.2.length aL),(5,.pointer (some ⟨b5,0,none⟩)),(7,.pointer (some ⟨b7,0,none⟩)),(8,vi x29.2),(9,.pointer (some ⟨b9,0,none⟩)),(10,vi s1.1),(11,.pointer (some ⟨b11,0,none⟩)),(12,.bool x59.2)]∧Stp [28,30,31,32] K146 w145 κ' w'∧Oc E6 2 κ' w' 28 ae ak x59.1.Won∧Oc E6 2 κ' w' 29 ad ac x59.1.Plan∧Bc κ' w' 30 b11 34 [.slice ae x59.1.Won.length ak,.slice ad x59.1.Plan.length ac]) ?_ ?_))))))
 refine WC.rxt (κ:=K146) [0,10,27] none (by kernel_rfl) fun w156 S157=>Jq1 (fuel:=7) [(2,2),(3,2),(4,2),(0,0),(1,0),(5,0)] (by kernel_rfl) (by kernel_rfl) R (Jn 2 R (Jf R (Jf2 f62 hx57 U62 Z42 R R R R) (Jg R (Jd2 (cs:=[.slice ab s1.2.1.length aj,.slice af s1.2.2.1.length aa,.slice ai s1.2.2.2.1.length ah]) I39 Z39 R R R (haC (f134.stp (S147.tr S157) R R).cells R)) (Jg R (Jd2 (cs:=[.slice an s1.2.2.2.2.1.length ax,.slice ar s1.2.2.2.2.2.length ay]) I34 Z34 R R R (haC (f135.stp (S147.tr S157) R R).cells R)) ?_))))
 obtain⟨cse161,hre161,hle161⟩:=((f62.stp (S73.tr (S81.tr (S84.tr (S101.tr (S108.tr (S111.tr (S128.tr (S147.tr S157)))))))) R R)).gSt hx57
 obtain rfl:=Edit.un hre161
 refine Jg R (Jd2 (cs:=[vi x57.Kind,vi x57.V,vi x57.N]) I42 Z42 R R R (haC hle161 R)) (Jp1 (WA.fork2 (fuel:=6) 6 10 (by kernel_rfl) R ?_ ?_))
 have S002:=(S147.tr S157)
 refine Jh R R R C12 (i_ResolvedBy_ok (κ:=fun b=>mp [] 0 (K146 b)) (p0:=(⟨(⟨s1.2.1,s1.2.2.1⟩:Arena),s1.2.2.2.1⟩:Parity)) (p1:=(⟨s1.2.2.2.2.1,s1.2.2.2.2.2⟩:Answer)) (p2:=x57) (Jl2 (f129.stp S002 R R) (mp [] 0) R R) (Jl2 (f130.stp S002 R R) (mp [] 0) R R) (Jl2 (f131.stp S002 R R) (mp [] 0) R R) (Jl2 (f132.stp S002 R R).rdc (mp [] 0) R R) (Jl2 (f133.stp S002 R R).rdc (mp [] 0) R R) hx59) ?_
 rintro _ w167 ⟨k168,az,au,av,aw,rfl,e169,f170,f171⟩
 obtain⟨K172,S173,m174⟩:=Ji e169 28 R
 exact⟨(S173.cl R),Jp1 (Jq1 (fuel:=0) [(7,2),(8,2),(9,2),(10,1),(11,1),(12,2)] (by kernel_rfl) (by kernel_rfl) R (Jn 3 R (Jg1 (κ:=K172) 32 R R R R R X34 R fun b11 w178 K179 S180 f181=>⟨((S173.tr S180).cl R),Jj1 (κ:=K179) 32 (vc:=[.slice az x59.1.Won.length au,.slice av x59.1.Plan.length aw]) R R R R R R R Z34 R R f181 R fun w182 S183 f184=>⟨((S173.tr (S180.tr S183)).cl R),Jn 1 R (Jp1 (Jr1 [] (by kernel_rfl) (by kernel_rfl) R (Jo (Jw1 _ ⟨(fun b=>ren [(30,28),(31,29),(32,30)] (K179 b)),b11,az,au,av,aw,R,(Jy2 ((S157.tr (S173.tr (S180.tr S183))).wk R) [(30,28),(31,29),(32,30)] R),(((f170.mx (no_int _) m174 R (R:28+2=30)).stp (S180.tr S183) R R).map (ren [(30,28),(31,29),(32,30)]) R R),(((f171.mx (no_int _) m174 R (R:28+3=31)).stp (S180.tr S183) R R).map (ren [(30,28),(31,29),(32,30)]) R R),(f184.map (ren [(30,28),(31,29),(32,30)]) R R)⟩ (KM R)))))⟩⟩)))⟩
 have S003:=(S147.tr S157)
 refine Jg1 (κ:=K146) 28 R R R R R X34 R fun b11 w187 K188 S189 f190=>⟨(S189.cl R),Jp1 (Jq1 (fuel:=0) [(6,1),(7,2),(8,2),(9,2),(11,1),(12,2)] (by kernel_rfl) (by kernel_rfl) R (Jh R R R C12 (i_ResolvedBy_ok (κ:=fun b=>mp [] 0 (K188 b)) (p0:=(⟨(⟨s1.2.1,s1.2.2.1⟩:Arena),s1.2.2.2.1⟩:Parity)) (p1:=(⟨s1.2.2.2.2.1,s1.2.2.2.2.2⟩:Answer)) (p2:=x57) (Jl2 (f129.stp (S003.tr S189) R R) (mp [] 0) R R) (Jl2 (f130.stp (S003.tr S189) R R) (mp [] 0) R R) (Jl2 (f131.stp (S003.tr S189) R R) (mp [] 0) R R) (Jl2 (f132.stp (S003.tr S189) R R).rdc (mp [] 0) R R) (Jl2 (f133.stp (S003.tr S189) R R).rdc (mp [] 0) R R) hx59) ?_))⟩
 rintro _ w196 ⟨k197,az,au,av,aw,rfl,e198,f199,f200⟩
 obtain⟨K201,S202,m203⟩:=Ji e198 29 R
 exact⟨((S189.tr S202).cl R),Jn 3 R (Jj1 (κ:=K201) 28 (vc:=[.slice az x59.1.Won.length au,.slice av x59.1.Plan.length aw]) R R R R R R R Z34 R R (f190.stp S202 R R) R fun w208 S209 f210=>⟨((S189.tr (S202.tr S209)).cl R),Jn 1 R (Jp1 (Jr1 [] (by kernel_rfl) (by kernel_rfl) R (Jo (Jw1 _ ⟨(fun b=>ren [(31,28),(32,29),(28,30)] (K201 b)),b11,az,au,av,aw,R,(Jy2 ((S157.tr (S189.tr (S202.tr S209))).wk R) [(31,28),(32,29),(28,30)] R),(((f199.mx (no_int _) m203 R (R:29+2=31)).stp S209 R R).map (ren [(31,28),(32,29),(28,30)]) R R),(((f200.mx (no_int _) m203 R (R:29+3=32)).stp S209 R R).map (ren [(31,28),(32,29),(28,30)]) R R),(f210.map (ren [(31,28),(32,29),(28,30)]) R R)⟩ (KM R)))))⟩)⟩
 rintro _ w149 ⟨K150,b11,ae,ak,ad,ac,rfl,S151,f153,f154,f155⟩
 refine Jp (Jq (Je [2,2] R (Jb 2 R ?_)))
 revert h
 cases ht213:(!x59.2)
 refine JF fun h=>Jy R (Js (Jp (Je [1,1] R (Jl tv R R R R (Jd2 (cs:=[.slice ae x59.1.Won.length ak,.slice ad x59.1.Plan.length ac]) I34 Z34 R R R (haE f155.cells)) (Jj1 (κ:=K150) 27 (vc:=[.slice ae x59.1.Won.length ak,.slice ad x59.1.Plan.length ac]) R R R R R R R Z34 R R (f135.stp (S147.tr S151) R R) R fun w216 S217 f218=>⟨tv,Jd (Js1 (κ:=K150) [0,10] (some 9) [(1,2),(2,2),(3,2),(0,0),(4,0),(5,1),(6,2),(7,2),(8,2)] [(9,1)] (by kernel_rfl) (by kernel_rfl) fun w220 S219=>Jn 2 R (Ob h fun x69 hx69 h=>Jf R (Jf2 f62 hx69 U62 Z42 R R R R) ?_))⟩)))))
 have f221:=f134.stp (S147.tr (S151.tr (S217.tr S219))) R R
 refine Jg R (Jd2 (cs:=[.slice ab s1.2.1.length aj,.slice af s1.2.2.1.length aa,.slice ai s1.2.2.2.1.length ah]) I39 Z39 R R R (haC f221.cells R)) ?_
 obtain⟨cse223,hre223,hle223⟩:=((f62.stp (S73.tr (S81.tr (S84.tr (S101.tr (S108.tr (S111.tr (S128.tr (S147.tr (S151.tr (S217.tr S219)))))))))) R R)).gSt hx69
 obtain rfl:=Edit.un hre223
 have S004:=(S147.tr (S151.tr (S217.tr S219)))
 refine Jg R (Jd2 (cs:=[vi x69.Kind,vi x69.V,vi x69.N]) I42 Z42 R R R (haC hle223 R)) (Ob h fun x71 hx71 h=>Jh R R R C21 (s_Edited_ok (κ:=fun b=>mp [] 1 (K150 b)) (p0:=(⟨(⟨s1.2.1,s1.2.2.1⟩:Arena),s1.2.2.2.1⟩:Parity)) (p1:=x69) (Jl2 (f129.stp S004 R R) (mp [] 1) R R) (Jl2 (f130.stp S004 R R) (mp [] 1) R R) (Jl2 (f131.stp S004 R R) (mp [] 1) R R) hx71) ?_)
 rintro _ w227 ⟨k228,aN,aQ,aW,be,aO,bb,rfl,e229,f230,f231,f232⟩
 obtain⟨K233,S234,m235,z236⟩:=Jj e229 31 R
 refine⟨(S234.cl R),Jn 3 R (Jt1 (Jj1 (κ:=K233) 10 (vc:=[.slice aN x71.1.Arena.Owner.length aQ,.slice aW x71.1.Arena.Next.length be,.slice aO x71.1.Prio.length bb]) R R R R R R R Z39 R R (f221.stp S234 R R) R fun w241 S242 f243=>⟨tv,Jo (Jz (Jp (Ja [2,2,2] R (Jc 3 R ?_))))⟩))⟩
 obtain⟨K245,S246,z247⟩:=fz_ex K233 w241 33
 obtain⟨K250,S251,z252⟩:=fz_ex K245 w241 34
 obtain⟨K255,S256,z257⟩:=fz_ex K250 w241 35
 cases h
 have S005:=(S217.tr (S219.tr (S234.tr (S242.tr (S246.tr (S251.tr S256))))))
 exact Jz1 fun a ha=>⟨k,_,Ja3 _,⟨(fun b=>ren [(28,25),(29,26)] (K255 b)),(((IntKind.i64.wrap (s1.1+1)):Int),(x71.1.Arena.Owner:(List Int)),(x71.1.Arena.Next:(List (List Int))),(x71.1.Prio:(List Int)),(x59.1.Won:(List Int)),(x59.1.Plan:(List Int))),aN,aQ,aW,be,aO,bb,ae,ak,ad,ac,R,(Jy2 ((S128.tr (S147.tr (S151.tr (S217.tr (S219.tr (S234.tr (S242.tr (S246.tr (S251.tr S256))))))))).wk R) [(28,25),(29,26)] R),(((Sl.st z247 ((f230.mx (no_int _) m235 R (R:31+2=33)).stp S242 R R).rdc).stp (S251.tr S256) R R).map (ren [(28,25),(29,26)]) R R),(((Sl.st z252 ((f231.mxz z236 m235 R (R:31+3=34)).stp (S242.tr S246) R R).rdc).stp S256 R R).map (ren [(28,25),(29,26)]) R R),((Sl.st z257 ((f232.mx (no_int _) m235 R (R:31+4=35)).stp (S242.tr (S246.tr S251)) R R).rdc).map (ren [(28,25),(29,26)]) R R),((f153.stp S005 R R).map (ren [(28,25),(29,26)]) R R),((f154.stp S005 R R).map (ren [(28,25),(29,26)]) R R),((f243.stp (S246.tr (S251.tr S256)) R R).map (ren [(28,25),(29,26)]) R R),((f218.stp (S219.tr (S234.tr (S242.tr (S246.tr (S251.tr S256))))) R R).map (ren [(28,25),(29,26)]) R R),hk142⟩,(ha.mm R)⟩
 refine JT fun h=>Jx R (Je [2] R (Jb 1 R (Ju (Jw (Ja1 (Jw (Jw ?_)))))))
 cases h
 obtain rfl:=Option.some.inj hk142
 have h:=hK114
 dsimp only[aft]at h
 refine Ja1 (Jq2 (Jw (Ja2 (l:=[.tmp 2]) V5 (Jp2 R R) R ?_)))
 cases h
 exact⟨K150,R,(hE.stp (S5.tr (S19.tr (S28.tr (S31.tr (S44.tr (S52.tr (S55.tr (S60.tr (S73.tr (S81.tr (S84.tr (S101.tr (S108.tr (S111.tr (S128.tr (S147.tr S151)))))))))))))))) R R)⟩
 rintro _ w116 ⟨K117,s3,aI,aB,aC,aE,aJ,aG,aH,aF,aK,aD,rfl,S118,f119,f120,f121,f122,f123,f124,f125,rfl⟩
 have h:=hK114
 dsimp only[aft]at h
 have S006:=(S52.tr (S55.tr (S60.tr (S73.tr (S81.tr (S84.tr (S101.tr (S108.tr (S111.tr S118)))))))))
 have S007:=(S81.tr (S84.tr (S101.tr (S108.tr (S111.tr S118)))))
 refine Jp (Je [1,1,1,2,1,1,1,2,2] R (Jl tv R R R R (Jd2 (cs:=[.slice aV x23.1.Arena.Owner.length aU,.slice aX x23.1.Arena.Next.length aP,.slice bc x23.1.Prio.length aS]) I39 Z39 R R R (haE (f56.stp (S60.tr (S73.tr (S81.tr (S84.tr (S101.tr (S108.tr (S111.tr S118))))))) R R).cells)) (Jl tv R R R R (Jd2 (cs:=[.slice bh x29.1.Arena.Owner.length aY,.slice aR x29.1.Arena.Next.length bf,.slice aZ x29.1.Prio.length aT]) I39 Z39 R R R (haE (f85.stp (S101.tr (S108.tr (S111.tr S118))) R R).cells)) (Ob h fun x76 hx76 h=>Jh R R R C23 (s_SameParity_ok (κ:=fun b=>mp [] 0 (K117 b)) (p0:=x23.1) (p1:=x29.1) (Jl2 ((f40.mx (no_int _) m45 R (R:11+2=13)).stp S006 R R).rdc (mp [] 0) R R) (Jl2 ((f41.mx (no_own (no_int _) _) m45 R (R:11+3=14)).stp S006 R R).rdc (mp [] 0) R R) (Jl2 ((f42.mx (no_int _) m45 R (R:11+4=15)).stp S006 R R).rdc (mp [] 0) R R) (Jl2 ((f69.mx z75).stp S007 R R) (mp [] 0) R R) (Jl2 ((f70.mx z75).stp S007 R R) (mp [] 0) R R) (Jl2 ((f71.mx z75).stp S007 R R) (mp [] 0) R R) hx76) ?_))))
 rintro _ w280 ⟨k281,rfl,e282⟩
 obtain⟨K283,S284,m285⟩:=Ji e282 28 R
 refine⟨tv,Jn 1 R (Ob h fun p81 h hK287=>Ju1 [(4,1),(5,1),(6,1),(7,2)] [(8,2)] (fun L w'=>L=[(81,.bool p81)]∧∃κ',Stp [] K283 w280 κ' w') tv ?_ ?_)⟩
 revert h
 cases ht288:x76
 refine JF fun h=>Jd1 R R R R (Jd1 R R R R (Jd1 R R R R (Jn 1 R ?_)))
 cases h
 exact Jv1 _ tv ⟨R,_,(Jx2 _ _).wk R⟩ (KM R)
 refine JT fun h=>Jl tv R R R R (Jd2 (cs:=[.slice aI s3.2.1.length aB,.slice aC s3.2.2.1.length aE,.slice aJ s3.2.2.2.1.length aG]) I39 Z39 R R R (haE (f124.stp S284 R R).cells)) (Jl tv R R R R (Jd2 (cs:=[.slice aH s3.2.2.2.2.1.length aF,.slice aK s3.2.2.2.2.2.length aD]) I34 Z34 R R R (haE (f125.stp S284 R R).cells)) (Ob h fun x80 hx80 h=>Jh R R R C27 (s_AnswerOk_ok (κ:=fun b=>mp [] 0 (K283 b)) (p0:=(⟨(⟨s3.2.1,s3.2.2.1⟩:Arena),s3.2.2.2.1⟩:Parity)) (p1:=(⟨s3.2.2.2.2.1,s3.2.2.2.2.2⟩:Answer)) (Jl2 (f119.stp S284 R R) (mp [] 0) R R) (Jl2 (f120.stp S284 R R) (mp [] 0) R R) (Jl2 (f121.stp S284 R R) (mp [] 0) R R) (Jl2 (f122.stp S284 R R).rdc (mp [] 0) R R) (Jl2 (f123.stp S284 R R).rdc (mp [] 0) R R) hx80) ?_))
 rintro _ w296 ⟨k297,rfl,e298⟩
 obtain⟨K299,S300,m301⟩:=Ji e298 30 R
 refine⟨tv,Jn 1 R ?_⟩
 cases h
 exact Jv1 _ tv ⟨R,_,S300.wk R⟩ (KM R)
 rintro _ w303 _ ⟨rfl,K304,S305⟩
 have h:=hK287
 refine Jb 1 R (Ju (Ja2 (l:=[.tmp 2]) V5 (Jp2 R R) R ?_))
 cases h
 exact⟨K304,R,(hE.stp (S5.tr (S19.tr (S28.tr (S31.tr (S44.tr (S52.tr (S55.tr (S60.tr (S73.tr (S81.tr (S84.tr (S101.tr (S108.tr (S111.tr (S118.tr (S284.tr S305)))))))))))))))) R R)⟩
 refine JT fun h=>Jx R (Je [2,1,2,2,2] R (Jf R (Jb2 U39 R Z22 R R) (Jl tv R R R R (Jc2 I22 R R (hvE ((f56.stp (S60.tr (S73.tr (S81.tr S84))) R R).ld 2 R R))) (Jf R (Je2 U22 R R) (Jb 2 R (Ju (Jw (Ja2 (l:=[.tmp 2]) V5 (Jp2 R R) R ?_))))))))
 cases h
 exact⟨K80,R,(hE.stp (S5.tr (S19.tr (S28.tr (S31.tr (S44.tr (S52.tr (S55.tr (S60.tr (S73.tr (S81.tr S84)))))))))) R R)⟩
 refine JT fun h=>Jx R (Je [2] R (Jb 1 R (Ju (Jw (Ja2 (l:=[.tmp 2]) V5 (Jp2 R R) R ?_)))))
 cases h
 exact⟨K80,R,(hE.stp (S5.tr (S19.tr (S28.tr (S31.tr (S44.tr (S52.tr (S55.tr (S60.tr (S73.tr (S81.tr S84)))))))))) R R)⟩
 refine JT fun h=>Jx R (Je [2] R (Jb 1 R (Ju (Jw (Ja2 (l:=[.tmp 2]) V5 (Jp2 R R) R ?_)))))
 cases h
 exact⟨K4,R,(hE.stp S5 R R)⟩
end Go.Proofs.YtmiilifclnanlaaGreat
