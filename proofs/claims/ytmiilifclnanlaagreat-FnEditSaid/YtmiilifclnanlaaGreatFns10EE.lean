/- The walks, part 10. By program. -/
import Derived.Test.YtmiilifclnanlaaGreatFns8EE
import Derived.Test.YtmiilifclnanlaaGreatFns9EE
set_option linter.unusedVariables false
set_option linter.unusedSimpArgs false
namespace Go.Proofs.YtmiilifclnanlaaGreat
open Go Go.Wk Go.Proofs
set_option maxRecDepth 100000
set_option maxHeartbeats 1000000
theorem s_l1DrawAny_ok {w:World}{κ:Col}{ab aa}{p0:l1Cur}{b0}(g0_0:Rd (Rp.int .u8) κ w 0 ab aa p0.b) (gb0:Bc κ w 2 b0 107 [.slice ab p0.b.length aa,vi p0.i,vi p0.h]){r:Arena×Int×Int}(h:s_l1DrawAny p0=some r):Ret Tryz.prog 109 [.pointer (some ⟨b0,0,none⟩)] w (fun v w'=>∃(κ':Col) (ra0:Option Addr) (ru0:Nat) (ra1:Option Addr) (ru1:Nat),v= .agg #[.slice ra0 r.1.Owner.length ru0,.slice ra1 r.1.Next.length ru1]∧Ent κ w κ' w'∧Oc E6 2 κ' w' 3 ra0 ru0 r.1.Owner∧Oc (Ep.own E6 2) 22 κ' w' 4 ra1 ru1 r.1.Next∧Bc κ' w' 2 b0 107 [.slice ab p0.b.length aa,vi r.2.1,vi r.2.2]):=by
 unfold s_l1DrawAny at h
 refine Ret.enter F109 R N109 R ?_
 dsimp only[envOf]
 have hE:=Ent.refl κ w
 refine Je [1] R (Jg1 (κ:=κ) 3 R R R R R X37 R fun b2 w1 K2 S3 f4=>⟨tv,Jd (Je [2,1,1,1] R (Jn 1 R (Ob h fun x7 hx7 h=>?_)))⟩)
 have f5:=g0_0.stp S3 R R
 refine Jh R R R C137 (s_l1Draw_ok (κ:=fun b=>mp [(2,2)] 0 (K2 b)) (p0:=p0) (Jl2 f5 (mp [(2,2)] 0) R R) ((gb0.stp S3 R R).map (mp [(2,2)] 0) R R) hx7) ?_
 rintro _ w7 ⟨k8,af,ak,ac,ad,rfl,e9,f10,f11,f12⟩
 obtain⟨K13,S14,m15⟩:=Ji e9 4 R
 refine⟨tv,?_⟩
 have f17:=f10.mx (no_int _) m15 R (R:4+3=7)
 have f18:=f11.mx (no_own (no_int _) _) m15 R (R:4+4=8)
 refine Jg1 (κ:=K13) 9 R R R R R X37 R fun b3 w20 K21 S22 f23=>⟨tv,Jj1 (κ:=K21) 9 (vc:=[.slice af x7.1.Owner.length ak,.slice ac x7.1.Next.length ad]) R R R R R R R Z37 R R f23 R fun w24 S25 f26=>⟨tv,Jd (Jq (Je [2,1] R (Jn 1 R (Ob h fun x9 hx9 h=>?_))))⟩⟩
 have f27:=f5.stp (S14.tr (S22.tr S25)) R R
 refine Jh R R R C71 (s_l1Once_ok (κ:=fun b=>mp [(6,2)] 0 (K21 b)) (p0:=(⟨p0.b,x7.2.1,x7.2.2⟩:l1Cur)) (Jl2 f27 (mp [(6,2)] 0) R R) (((f12.mx m15 R (R:4+2=6)).stp (S22.tr S25) R R).map (mp [(6,2)] 0) R R) hx9) ?_
 rintro _ w29 ⟨k30,rfl,e31,f32⟩
 obtain⟨K33,S34,m35⟩:=Ji e31 10 R
 refine⟨tv,?_⟩
 have f37:=f32.mx m35 R (R:10+2=12)
 refine Jd (Ob h fun q1 h hK38=>Jx1 (fun L w'=>∃κ' ae ah aj ai,L=[(0,.pointer (some ⟨b0,0,none⟩)),(2,.pointer (some ⟨b2,0,none⟩)),(3,.pointer (some ⟨b3,0,none⟩))]∧Stp [7,8,9,12,15,18,19,20,21,23,25,26] K33 w29 κ' w'∧Oc E6 2 κ' w' 7 ae ah q1.2.2.1∧Oc (Ep.own E6 2) 22 κ' w' 8 aj ai q1.2.2.2∧Bc κ' w' 12 b0 107 [.slice ab p0.b.length aa,vi q1.1,vi q1.2.1]∧Bc κ' w' 9 b3 37 [.slice ae q1.2.2.1.length ah,.slice aj q1.2.2.2.length ai]) ?_ ?_)
 revert h
 cases ht46:x9.1
 refine JF fun h=>Jy R (Js ?_)
 cases h
 exact Jw1 _ ⟨K33,af,ak,ac,ad,R,(Jx2 _ _).wk R,(f17.stp (S22.tr (S25.tr S34)) R R),(f18.stp (S22.tr (S25.tr S34)) R R),f37,(f26.stp S34 R R)⟩ (KM R)
 refine JT fun h=>Jx R (Je [2,2,1,2,1,2] R (Jn 1 R (Jf R (Jb2 U37 R Z22 R R) ?_)))
 have f47:=f26.stp S34 R R
 refine Jl tv R R R R (Jc2 I22 R R (hvE (f47.ld 0 R R))) (Jf R (Je2 U22 R R) (Ob h fun x14 hx14 h=>?_))
 have f48:=f27.stp S34 R R
 refine Jh R R R C69 (s_l1Below_ok (κ:=fun b=>mp [(12,2)] 0 (K33 b)) (p0:=(⟨p0.b,x9.2.1,x9.2.2⟩:l1Cur)) (Jl2 f48 (mp [(12,2)] 0) R R) (f37.map (mp [(12,2)] 0) R R) hx14) ?_
 rintro _ w49 ⟨k50,rfl,e51,f52⟩
 obtain⟨K53,S54,m55⟩:=Ji e51 13 R
 refine⟨tv,Jb 1 R (Je [2,1] R (Jn 1 R (Ob h fun x16 hx16 h=>?_)))⟩
 have f58:=f48.stp S54 R R
 refine Jh R R R C69 (s_l1Below_ok (κ:=fun b=>mp [(15,2)] 0 (K53 b)) (p0:=(⟨p0.b,x14.2.1,x14.2.2⟩:l1Cur)) (Jl2 f58 (mp [(15,2)] 0) R R) ((f52.mx m55 R (R:13+2=15)).map (mp [(15,2)] 0) R R) hx16) ?_
 rintro _ w59 ⟨k60,rfl,e61,f62⟩
 obtain⟨K63,S64,m65⟩:=Ji e61 16 R
 refine⟨tv,?_⟩
 have f67:=f62.mx m65 R (R:16+2=18)
 refine Jd (Jv (Je [2,2] R (Jb 2 R (Ob h fun q2 h hK68=>Jx1 (fun L w'=>∃κ' ar an aL aE,L=[(0,.pointer (some ⟨b0,0,none⟩)),(2,.pointer (some ⟨b2,0,none⟩)),(3,.pointer (some ⟨b3,0,none⟩))]∧Stp [7,8,9,18,19,20,21,23,25,26] K63 w59 κ' w'∧Oc E6 2 κ' w' 7 ar an q2.2.2.1∧Oc (Ep.own E6 2) 22 κ' w' 8 aL aE q2.2.2.2∧Bc κ' w' 18 b0 107 [.slice ab p0.b.length aa,vi q2.1,vi q2.2.1]∧Bc κ' w' 9 b3 37 [.slice ar q2.2.2.1.length an,.slice aL q2.2.2.2.length aE]) ?_ ?_))))
 revert h
 cases ht76:(x16.1==0)
 refine JF fun h=>Jy R (Je [2,2] R (Jb 2 R (Ob h fun q3 h hK100=>Jx1 (fun L w'=>∃κ' aK aN aq ax,L=[(0,.pointer (some ⟨b0,0,none⟩)),(2,.pointer (some ⟨b2,0,none⟩)),(3,.pointer (some ⟨b3,0,none⟩))]∧Stp [7,8,9,18,19,20,21,23,25,26] K63 w59 κ' w'∧Oc E6 2 κ' w' 7 aK aN q3.2.2.1∧Oc (Ep.own E6 2) 22 κ' w' 8 aq ax q3.2.2.2∧Bc κ' w' 18 b0 107 [.slice ab p0.b.length aa,vi q3.1,vi q3.2.1]∧Bc κ' w' 9 b3 37 [.slice aK q3.2.2.1.length aN,.slice aq q3.2.2.2.length ax]) ?_ ?_)))
 revert h
 cases ht108:(x16.1==1)
 refine JF fun h=>Jy R (Je [2,2] R (Jb 2 R (Ob h fun q4 h hK229=>Jx1 (fun L w'=>∃κ' ap aw aP az,L=[(0,.pointer (some ⟨b0,0,none⟩)),(2,.pointer (some ⟨b2,0,none⟩)),(3,.pointer (some ⟨b3,0,none⟩))]∧Stp [7,8,9,18,19,20,23,25,26] K63 w59 κ' w'∧Oc E6 2 κ' w' 7 ap aw q4.2.2.1∧Oc (Ep.own E6 2) 22 κ' w' 8 aP az q4.2.2.2∧Bc κ' w' 18 b0 107 [.slice ab p0.b.length aa,vi q4.1,vi q4.2.1]∧Bc κ' w' 9 b3 37 [.slice ap q4.2.2.1.length aw,.slice aP q4.2.2.2.length az]) ?_ ?_)))
 revert h
 cases ht237:(x16.1==2)
 refine JF fun h=>Jy R (Je [2,2] R (Jb 2 R (Ob h fun q5 h hK252=>Jx1 (fun L w'=>∃κ' aD ay aO aC,L=[(0,.pointer (some ⟨b0,0,none⟩)),(2,.pointer (some ⟨b2,0,none⟩)),(3,.pointer (some ⟨b3,0,none⟩))]∧Stp [7,8,9,18,19,20,23,25,26] K63 w59 κ' w'∧Oc E6 2 κ' w' 7 aD ay q5.2.2.1∧Oc (Ep.own E6 2) 22 κ' w' 8 aO aC q5.2.2.2∧Bc κ' w' 18 b0 107 [.slice ab p0.b.length aa,vi q5.1,vi q5.2.1]∧Bc κ' w' 9 b3 37 [.slice aD q5.2.2.1.length ay,.slice aO q5.2.2.2.length aC]) ?_ ?_)))
 revert h
 cases ht260:(x16.1==3)
 refine JF fun h=>Jy R (Je [2,2] R (Jb 2 R (Ob h fun q6 h hK278=>Jx1 (fun L w'=>∃κ' aA aG aQ aF,L=[(0,.pointer (some ⟨b0,0,none⟩)),(2,.pointer (some ⟨b2,0,none⟩)),(3,.pointer (some ⟨b3,0,none⟩))]∧Stp [8,9,18,19,20,23,25,26] K63 w59 κ' w'∧Oc E6 2 κ' w' 7 aA aG q6.2.2.1∧Oc (Ep.own E6 2) 22 κ' w' 8 aQ aF q6.2.2.2∧Bc κ' w' 18 b0 107 [.slice ab p0.b.length aa,vi q6.1,vi q6.2.1]∧Bc κ' w' 9 b3 37 [.slice aA q6.2.2.1.length aG,.slice aQ q6.2.2.2.length aF]) ?_ ?_)))
 revert h
 cases ht286:(x16.1==4)
 refine JF fun h=>Jy R (Je [2,2] R (Jb 2 R (Ob h fun q10 h hK358=>Jx1 (fun L w'=>∃κ',L=[(0,.pointer (some ⟨b0,0,none⟩)),(2,.pointer (some ⟨b2,0,none⟩)),(3,.pointer (some ⟨b3,0,none⟩))]∧Stp [8,19] K63 w59 κ' w'∧Oc (Ep.own E6 2) 22 κ' w' 8 ac ad q10∧x7.1.Next.length=q10.length) ?_ ?_)))
 revert h
 cases ht364:(x16.1==5)
 refine JF fun h=>Jy R (Js ?_)
 cases h
 exact Jw1 _ ⟨K63,R,(Jx2 _ _).wk R,(f18.stp (S22.tr (S25.tr (S34.tr (S54.tr S64)))) R R),R⟩ (KM R)
 refine JT fun h=>Jx R (Js1 (κ:=K63) [9] none [(0,2),(2,2),(1,0),(3,1),(4,2),(5,1)] [] (by kernel_rfl) (by kernel_rfl) fun w366 S365=>Jf R (Jb2 U37 R Z23 R R) (Jn 1 R (Jg R (Jc2 I23 R R (hvC ((f47.stp (S54.tr (S64.tr S365)) R R).ld 1 R R) R)) (Ob h fun x84 hx84 h=>Jl1 (κ:=K63) (E:=E6) (z:=(0:Int)) 19 R R R R R R R Y22 Tryzinfo2 R R R R R (fun _ _ _=>R) (Ju2 hx84) fun bk bd w368 K369 S370 f371=>⟨(S370.cl R),Ob h fun x85 hx85 h=>Jf R (Jf2 f18.rdc hx85 U23 Z22 R R R R) (Ob h fun y61 hy61 h=>Jk1 (κ:=K369) (E:=(Ep.own E6 2)) 8 [19] R R R R R R R R Z22 R ⟨_,_,R,f371⟩ R R (f18.stp (S22.tr (S25.tr (S34.tr (S54.tr (S64.tr (S365.tr S370)))))) R R) hy61 fun w373 K374 S375 f376=>⟨((S370.tr S375).cl R),?_⟩)⟩))))
 have hn377:x7.1.Next.length=y61.length:=(Jt2 hy61).2.2.2.symm
 refine Jt1 (Jo ?_)
 cases h
 exact Jw1 _ ⟨K374,R,(S365.tr (S370.tr S375)).wk R,f376,hn377⟩ (KM R)
 rintro _ w359 ⟨K360,rfl,S361,f362,hn363⟩
 have h:=hK358
 cases h
 exact Jw1 _ ⟨K360,af,ak,ac,ad,R,S361.wk R,(f17.stp (S22.tr (S25.tr (S34.tr (S54.tr (S64.tr S361))))) R R),f362,(f67.stp S361 R R),(Bc.cast (f47.stp (S54.tr (S64.tr S361)) R R) (by simp only[hn363]))⟩ (KM R)
 refine JT fun h=>Jx R (Je [2,1] R (Jf R (rn_build (parts:=[]) (cells:=[.slice none 0 0,.slice none 0 0]) R R (by kernel_rfl)) (Jj1 (κ:=K63) 9 (vc:=[.slice none 0 0,.slice none 0 0]) R R R R R R R Z37 R R (f47.stp (S54.tr S64) R R) R fun w288 S289 f290=>⟨tv,Jd (Je [2] R (Jb 1 R (Ob h fun q8 hq293 hK292=>?_)))⟩)))
 clear h
 refine Jx1 (fun L w'=>∃κ',∃s9:Int×Int×Int×(List Int)×(List (List Int)),∃aM aH aJ aI,L=[(0,.pointer (some ⟨b0,0,none⟩)),(2,.pointer (some ⟨b2,0,none⟩)),(3,.pointer (some ⟨b3,0,none⟩))]∧Stp [9,18,19,20,23,25,26] K63 w288 κ' w'∧Oc E6 2 κ' w' 19 aM aH s9.2.2.2.1∧Oc (Ep.own E6 2) 22 κ' w' 20 aJ aI s9.2.2.2.2∧Bc κ' w' 18 b0 107 [.slice ab p0.b.length aa,vi s9.2.1,vi s9.2.2.1]∧Bc κ' w' 9 b3 37 [.slice aM s9.2.2.2.1.length aH,.slice aJ s9.2.2.2.2.length aI]∧q8=Sum.inr s9) ?_ ?_
 refine Jv (Jy1 (fun k L w'=>∃κ',∃s7:Int×Int×Int×(List Int)×(List (List Int)),∃aB au al am,L=[(0,.pointer (some ⟨b0,0,none⟩)),(2,.pointer (some ⟨b2,0,none⟩)),(3,.pointer (some ⟨b3,0,none⟩)),(5,vi s7.1)]∧Stp [9,18,19,20,23,25,26] K63 w288 κ' w'∧Oc E6 2 κ' w' 19 aB au s7.2.2.2.1∧Oc (Ep.own E6 2) 22 κ' w' 20 al am s7.2.2.2.2∧Bc κ' w' 18 b0 107 [.slice ab p0.b.length aa,vi s7.2.1,vi s7.2.2.1]∧Bc κ' w' 9 b3 37 [.slice aB s7.2.2.2.1.length au,.slice al s7.2.2.2.2.length am]∧whileM (s_l1DrawAny_b1 p0) k s7=some q8) ⟨_,_,⟨K63,((0:Int),(x16.2.1:Int),(x16.2.2:Int),(([]:List Int):(List Int)),(([]:List (List Int)):(List (List Int)))),none,0,none,0,R,(Jx2 _ _).wk R,Ow.nil,Ow.nil,(f67.stp S289 R R),f290,hq293⟩,(KM R)⟩ ?_)
 rintro k _ w301 ⟨K302,s7,aB,au,al,am,rfl,S303,f304,f305,f306,f307,h⟩
 rcases k with _ | k
 cases h
 obtain⟨o291,h,hk309⟩:=BI h;unfold s_l1DrawAny_b1 at h
 refine Jq (Je [2,2,1,2,2] R (Jn 2 R (Ob h fun x59 hx59 h=>Jh R R R C69 (s_l1Below_ok (κ:=fun b=>mp [(18,2)] 0 (K302 b)) (p0:=(⟨p0.b,s7.2.1,s7.2.2.1⟩:l1Cur)) (Jl2 (f58.stp (S64.tr (S289.tr S303)) R R) (mp [(18,2)] 0) R R) (f306.map (mp [(18,2)] 0) R R) hx59) ?_)))
 rintro _ w311 ⟨k312,rfl,e313,f314⟩
 obtain⟨K315,S316,m317⟩:=Ji e313 21 R
 refine⟨tv,?_⟩
 have f319:=f314.mx m317 R (R:21+2=23)
 refine Jb 2 R ?_
 revert h
 cases ht320:decide (s7.1<(IntKind.i64.wrap (256+x59.1)))
 refine JF fun h=>Jy R (Jc1 (Jt (Jt ?_)))
 cases h
 have h:=hk309
 refine Jb1 ?_
 cases h
 exact Jw1 _ ⟨(fun b=>ren [(23,18)] (K315 b)),((s7.1:Int),(x59.2.1:Int),(x59.2.2:Int),(s7.2.2.2.1:(List Int)),(s7.2.2.2.2:(List (List Int)))),aB,au,al,am,R,(Jy2 ((S303.tr S316).wk R) [(23,18)] R),((f304.stp S316 R R).map (ren [(23,18)]) R R),((f305.stp S316 R R).map (ren [(23,18)]) R R),(f319.map (ren [(23,18)]) R R),((f307.stp S316 R R).map (ren [(23,18)]) R R),R⟩ (KM R)
 refine JT fun h=>Jx R (Js (Jp (Jq (Jv (Je [2,1,2,2,1,1,2,1] R (Jf R (Jb2 U37 R Z22 R R) ?_))))))
 have f321:=f307.stp S316 R R
 refine Jl tv R R R R (Jc2 I22 R R (hvE (f321.ld 0 R R))) (Jn 1 R (Jf R (rn_rem R R R (by decide)) (Jn1 (κ:=K315) (E:=E6) 24 [] (parts:=[(0,.tmp 67)]) (cells:=[vi (Int.tmod s7.1 2)]) (xs:=([(Int.tmod s7.1 2)]:List Int)) R R R R R R Y22 Tryzinfo2 R R R R R R R R R R ⟨[vi (Int.tmod s7.1 2)],[],Zl K315 w311 [],Zl K315 w311 [],R,Zl.sp (l1:=[]) (l2:=[]) R,Zl.sr (l1:=[]) (l2:=[]),R,R⟩ fun be bj w322 K323 S324 f325=>⟨tv,Ob h fun x69 hx69 h=>Jm1 (κ:=K323) (E:=E6) 19 [] R R R R R R R R R Y22 Tryzinfo2 R R R R (f304.stp (S316.tr S324) R R) (Sl.srcP (pu_int _) f325.rdc) sy_false hx69 R fun ao av w327 K328 S329 f330=>⟨tv,Jf R (Jb2 U37 R Z22 R R) (Ji1 (κ:=K328) 9 (off:=0) (vc:=[.slice ao x69.length av]) (cs':=[.slice ao x69.length av,.slice al s7.2.2.2.2.length am]) R R R R R R R Z22 R R (f321.stp (S324.tr S329) R R) R R fun w332 S333 f334=>⟨tv,Jd (Ja [2,1,2,2,1,1,1,2,1] R (Jf R (Jb2 U37 R Z23 R R) (Jl tv R R R R (Jc2 I23 R R (hvE (f334.ld 1 R R))) (Jn 1 R (Jf R (rn_quo R R R (by decide)) (Jn1 (κ:=K328) (E:=E6) 25 [] (parts:=[(0,.tmp 74)]) (cells:=[vi (IntKind.i64.wrap (Int.tdiv s7.1 2))]) (xs:=([(IntKind.i64.wrap (Int.tdiv s7.1 2))]:List Int)) R R R R R R Y22 Tryzinfo2 R R R R R R R R R R ⟨[vi (IntKind.i64.wrap (Int.tdiv s7.1 2))],[],Zl K328 w332 [],Zl K328 w332 [],R,Zl.sp (l1:=[]) (l2:=[]) R,Zl.sr (l1:=[]) (l2:=[]),R,R⟩ fun aZ ba w335 K336 S337 f338=>⟨tv,Jn1 (κ:=K336) (E:=(Ep.own E6 2)) 26 [25] (parts:=[(0,.tmp 75)]) (cells:=[.slice aZ ([(IntKind.i64.wrap (Int.tdiv s7.1 2))]:List Int).length ba]) (xs:=([([(IntKind.i64.wrap (Int.tdiv s7.1 2))]:List Int)]:List (List Int))) R R R R R R Y23 Tryzinfo22 R R R R R R R R R R ⟨[.slice aZ ([(IntKind.i64.wrap (Int.tdiv s7.1 2))]:List Int).length ba],[],Zl K336 w335 [25],Zl K336 w335 [],R,Zl.sp (l1:=[25]) (l2:=[]) R,Zl.sr (l1:=[25]) (l2:=[]),⟨_,_,R,f338⟩,R⟩ fun bf bc w339 K340 S341 f342=>⟨tv,Ob h fun x77 hx77 h=>Jm1 (κ:=K340) (E:=(Ep.own E6 2)) 20 [26] R R R R R R R R R Y23 Tryzinfo22 R R R R (f305.stp (S316.tr (S324.tr (S329.tr (S333.tr (S337.tr S341))))) R R) f342.src (sy_one R) hx77 R fun aR aV w344 K345 S346 f347=>⟨tv,Jf R (Jb2 U37 R Z23 R R) (Ji1 (κ:=K345) 9 (off:=1) (vc:=[.slice aR x77.length aV]) (cs':=[.slice ao x69.length av,.slice aR x77.length aV]) R R R R R R R Z23 R R (f334.stp (S337.tr (S341.tr S346)) R R) R R fun w349 S350 f351=>⟨tv,Jo (Jz (Jp (Ja [2,2,2] R (Jc 3 R ?_))))⟩)⟩⟩⟩))))))⟩)⟩⟩)))
 cases h
 exact Jz1 fun a ha=>⟨k,_,Ja3 _,⟨(fun b=>ren [(23,18)] (K345 b)),(((IntKind.i64.wrap (s7.1+1)):Int),(x59.2.1:Int),(x59.2.2:Int),(x69:(List Int)),(x77:(List (List Int)))),ao,av,aR,aV,R,(Jy2 ((S303.tr (S316.tr (S324.tr (S329.tr (S333.tr (S337.tr (S341.tr (S346.tr S350)))))))).wk R) [(23,18)] R),((f330.stp (S333.tr (S337.tr (S341.tr (S346.tr S350)))) R R).map (ren [(23,18)]) R R),((f347.stp S350 R R).map (ren [(23,18)]) R R),((f319.stp (S324.tr (S329.tr (S333.tr (S337.tr (S341.tr (S346.tr S350)))))) R R).map (ren [(23,18)]) R R),(f351.map (ren [(23,18)]) R R),hk309⟩,(ha.mm R)⟩
 rintro _ w294 ⟨K295,s9,aM,aH,aJ,aI,rfl,S296,f297,f298,f299,f300,rfl⟩
 have h:=hK292
 dsimp only[aft]at h
 cases h
 exact Jw1 _ ⟨(fun b=>ren [(19,7),(20,8)] (K295 b)),aM,aH,aJ,aI,R,(Jy2 ((S289.tr S296).wk R) [(19,7),(20,8)] R),(f297.map (ren [(19,7),(20,8)]) R R),(f298.map (ren [(19,7),(20,8)]) R R),(f299.map (ren [(19,7),(20,8)]) R R),(f300.map (ren [(19,7),(20,8)]) R R)⟩ (KM R)
 rintro _ w279 ⟨K280,aA,aG,aQ,aF,rfl,S281,f282,f283,f284,f285⟩
 have h:=hK278
 cases h
 exact Jw1 _ ⟨K280,aA,aG,aQ,aF,R,S281.wk R,f282,f283,f284,f285⟩ (KM R)
 refine JT fun h=>Jx R (Ja [2,1,1,1,2,1] R (Jf R (Jb2 U37 R Z22 R R) ?_))
 have f261:=f47.stp (S54.tr S64) R R
 refine Jl tv R R R R (Jc2 I22 R R (hvE (f261.ld 0 R R))) (Jn1 (κ:=K63) (E:=E6) 19 [] (parts:=[(0,.const (vi 0))]) (cells:=[vi 0]) (xs:=([0]:List Int)) R R R R R R Y22 Tryzinfo2 R R R R R R R R R R ⟨[vi 0],[],Zl K63 w59 [],Zl K63 w59 [],R,Zl.sp (l1:=[]) (l2:=[]) R,Zl.sr (l1:=[]) (l2:=[]),R,R⟩ fun bh bg w262 K263 S264 f265=>⟨tv,Ob h fun x52 hx52 h=>Jm1 (κ:=K263) (E:=E6) 7 [] R R R R R R R R R Y22 Tryzinfo2 R R R R (f17.stp (S22.tr (S25.tr (S34.tr (S54.tr (S64.tr S264))))) R R) (Sl.srcP (pu_int _) f265.rdc) sy_false hx52 R fun aS aW w267 K268 S269 f270=>⟨tv,Jf R (Jb2 U37 R Z22 R R) (Ji1 (κ:=K268) 9 (off:=0) (vc:=[.slice aS x52.length aW]) (cs':=[.slice aS x52.length aW,.slice ac x7.1.Next.length ad]) R R R R R R R Z22 R R (f261.stp (S264.tr S269) R R) R R fun w272 S273 f274=>⟨tv,Jo ?_⟩)⟩⟩)
 cases h
 have S001:=(S264.tr (S269.tr S273))
 exact Jw1 _ ⟨K268,aS,aW,ac,ad,R,S001.wk R,(f270.stp S273 R R),(f18.stp (S22.tr (S25.tr (S34.tr (S54.tr (S64.tr (S264.tr (S269.tr S273))))))) R R),(f67.stp S001 R R),f274⟩ (KM R)
 rintro _ w253 ⟨K254,aD,ay,aO,aC,rfl,S255,f256,f257,f258,f259⟩
 have h:=hK252
 cases h
 exact Jw1 _ ⟨K254,aD,ay,aO,aC,R,S255.wk R,f256,f257,f258,f259⟩ (KM R)
 refine JT fun h=>Jx R (Ja [2,1,2,1,2,1] R (Jf R (Jb2 U37 R Z23 R R) ?_))
 have f238:=f47.stp (S54.tr S64) R R
 refine Jl tv R R R R (Jc2 I23 R R (hvE (f238.ld 1 R R))) (Jn 1 R (Jo1 (κ:=K63) (E:=E6) 19 R R R R R Y22 Tryzinfo2 R fun bb bi w239 K240 S241 f242=>⟨tv,Ob h fun x46 hx46 h=>Jf R (Jf2 f18.rdc hx46 U23 Z22 R R R R) (Ob h fun y54 hy54 h=>Jk1 (κ:=K240) (E:=(Ep.own E6 2)) 8 [19] R R R R R R R R Z22 R ⟨_,_,R,f242⟩ R R (f18.stp (S22.tr (S25.tr (S34.tr (S54.tr (S64.tr S241))))) R R) hy54 fun w244 K245 S246 f247=>⟨tv,?_⟩)⟩))
 have hn248:x7.1.Next.length=y54.length:=(Jt2 hy54).2.2.2.symm
 refine Jo ?_
 cases h
 have S002:=(S241.tr S246)
 exact Jw1 _ ⟨K245,af,ak,ac,ad,R,S002.wk R,(f17.stp (S22.tr (S25.tr (S34.tr (S54.tr (S64.tr (S241.tr S246)))))) R R),f247,(f67.stp S002 R R),(Bc.cast (f238.stp S002 R R) (by simp only[hn248]))⟩ (KM R)
 rintro _ w230 ⟨K231,ap,aw,aP,az,rfl,S232,f233,f234,f235,f236⟩
 have h:=hK229
 cases h
 exact Jw1 _ ⟨K231,ap,aw,aP,az,R,S232.wk R,f233,f234,f235,f236⟩ (KM R)
 refine JT fun h=>Jx R (Ob h fun x33 hx33 h=>Ob h fun x36 hx36 h=>Ob h fun x38 hx38 h=>Ob h fun x39 hx39 h=>Ob h fun y52 hy52 h=>Jx1 (fun L w'=>∃κ',L=[(0,.pointer (some ⟨b0,0,none⟩)),(2,.pointer (some ⟨b2,0,none⟩)),(3,.pointer (some ⟨b3,0,none⟩))]∧Stp [8,18,21,23] K63 w59 κ' w'∧Oc (Ep.own E6 2) 22 κ' w' 8 ac ad y52∧x7.1.Next.length=y52.length∧Bc κ' w' 18 b0 107 [.slice ab p0.b.length aa,vi x36.2.1,vi x36.2.2]) ?_ ?_)
 refine WC.rxt (κ:=K63) [0,8,9] (some 11) (by kernel_rfl) fun w116 S117=>Jq1 (fuel:=6) [(0,2),(2,2),(3,2),(5,2),(8,2),(4,0),(6,2),(7,0)] (by kernel_rfl) (by kernel_rfl) R (Jf R (Jb2 U37 R Z23 R R) (Jn 1 R (Jf R (Jb2 U37 R Z23 R R) (Jn 2 R ?_))))
 have f118:=f47.stp (S54.tr (S64.tr S117)) R R
 refine Jg R (Jc2 I23 R R (hvC (f118.ld 1 R R) R)) (Jf R (Jf2 f18.rdc hx33 U23 Z22 R R R R) ?_)
 have f119:=f18.stp (S22.tr (S25.tr (S34.tr (S54.tr (S64.tr S117))))) R R
 obtain⟨ax33,ux33,f120,hl121⟩:=f119.rdc.gSl hx33
 refine Jg R (Jc2 I22 R R (hvC hl121 R)) (Jp1 (WA.fork2 (fuel:=5) 1 9 (by kernel_rfl) R ?_ ?_))
 refine Jl (Cl.refl _ _ _) R R R R (Jc2 I23 R R (hvE (f118.ld 1 R R))) (Jp1 (Jq1 (fuel:=3) [(9,1),(10,1)] (by kernel_rfl) (by kernel_rfl) R (Jh R R R C108 (s_l1Num_ok (κ:=fun b=>mp [(18,2)] 0 (K63 b)) (p0:=(⟨p0.b,x16.2.1,x16.2.2⟩:l1Cur)) (Jl2 (f58.stp (S64.tr S117) R R) (mp [(18,2)] 0) R R) ((f67.stp S117 R R).map (mp [(18,2)] 0) R R) hx36) ?_)))
 rintro _ w124 ⟨k125,rfl,e126,f127⟩
 obtain⟨K128,S129,m130⟩:=Ji e126 19 R
 refine⟨(S129.cl R),Jn1 (κ:=K128) (E:=E6) 22 [] (parts:=[(0,.tmp 36)]) (cells:=[vi x36.1]) (xs:=([x36.1]:List Int)) R R R R R R Y22 Tryzinfo2 R R R R R R R R R R ⟨[vi x36.1],[],Zl K128 w124 [],Zl K128 w124 [],R,Zl.sp (l1:=[]) (l2:=[]) R,Zl.sr (l1:=[]) (l2:=[]),R,R⟩ fun aX aY w133 K134 S135 f136=>⟨((S129.tr S135).cl R),Jp1 (WA.brk (fuel:=2) 11 (by kernel_rfl) R (by kernel_rfl) ?_)⟩⟩
 have f137:=f119.stp (S129.tr S135) R R
 obtain⟨K138,S139,f140,f141⟩:=f137.borrow hx33 (hl121 _ (Stp.ag (S129.tr S135) R)) 23 R R
 refine Jm1 (κ:=K138) (E:=E6) 23 [] R R R R R R R R R Y22 Tryzinfo2 R R R R f140 (Sl.srcP (pu_int _) (f136.stp S139 R R).rdc) sy_false hx38 R fun aU aT w143 K144 S145 f146=>⟨tv,Jp1 (Jq1 (fuel:=0) [(12,2),(13,1)] (by kernel_rfl) (by kernel_rfl) R (Jf R (Jf2 f137.rdc hx39 U23 Z22 R R R R) (WO.stH (κ:=K144) (E:=(Ep.own E6 2)) 8 [23] R R R R R R R R Z22 R ⟨_,_,R,f146⟩ R R (f141.stp S145 R R) hy52 fun w148 K149 S150 f151=>⟨tv,?_⟩)))⟩
 have hn152:x7.1.Next.length=y52.length:=(Jt2 hy52).2.2.2.symm
 exact Jp1 (Jr1 [] (by kernel_rfl) (by kernel_rfl) R (Jo (Jw1 _ ⟨(fun b=>ren [(21,18)] (K149 b)),R,(Jy2 ((S117.tr (S129.tr (S135.tr (S139.tr (S145.tr S150))))).wk R) [(21,18)] R),(f151.map (ren [(21,18)]) R R),hn152,(((f127.mx m130 R (R:19+2=21)).stp (S135.tr (S139.tr (S145.tr S150))) R R).map (ren [(21,18)]) R R)⟩ (KM R))))
 refine Jh R R R C108 (s_l1Num_ok (κ:=fun b=>mp [(18,2)] 0 (K63 b)) (p0:=(⟨p0.b,x16.2.1,x16.2.2⟩:l1Cur)) (Jl2 (f58.stp (S64.tr S117) R R) (mp [(18,2)] 0) R R) ((f67.stp S117 R R).map (mp [(18,2)] 0) R R) hx36) ?_
 rintro _ w156 ⟨k157,rfl,e158,f159⟩
 obtain⟨K160,S161,m162⟩:=Ji e158 19 R
 refine⟨(S161.cl R),?_⟩
 have f164:=f159.mx m162 R (R:19+2=21)
 refine Jp1 (WA.fork2 (fuel:=4) 1 10 (by kernel_rfl) R ?_ ?_)
 refine Jl (S161.cl R) R R R R (Jc2 I23 R R (hvE ((f118.stp S161 R R).ld 1 R R))) (Jp1 (Jq1 (fuel:=3) [(10,1)] (by kernel_rfl) (by kernel_rfl) R (Jn1 (κ:=K160) (E:=E6) 22 [] (parts:=[(0,.tmp 36)]) (cells:=[vi x36.1]) (xs:=([x36.1]:List Int)) R R R R R R Y22 Tryzinfo2 R R R R R R R R R R ⟨[vi x36.1],[],Zl K160 w156 [],Zl K160 w156 [],R,Zl.sp (l1:=[]) (l2:=[]) R,Zl.sr (l1:=[]) (l2:=[]),R,R⟩ fun aX aY w166 K167 S168 f169=>⟨((S161.tr S168).cl R),Jp1 (WA.brk (fuel:=2) 11 (by kernel_rfl) R (by kernel_rfl) ?_)⟩)))
 have f170:=f119.stp (S161.tr S168) R R
 obtain⟨K171,S172,f173,f174⟩:=f170.borrow hx33 (hl121 _ (Stp.ag (S161.tr S168) R)) 23 R R
 refine Jm1 (κ:=K171) (E:=E6) 23 [] R R R R R R R R R Y22 Tryzinfo2 R R R R f173 (Sl.srcP (pu_int _) (f169.stp S172 R R).rdc) sy_false hx38 R fun aU aT w176 K177 S178 f179=>⟨tv,Jp1 (Jq1 (fuel:=0) [(12,2),(13,1)] (by kernel_rfl) (by kernel_rfl) R (Jf R (Jf2 f170.rdc hx39 U23 Z22 R R R R) (WO.stH (κ:=K177) (E:=(Ep.own E6 2)) 8 [23] R R R R R R R R Z22 R ⟨_,_,R,f179⟩ R R (f174.stp S178 R R) hy52 fun w181 K182 S183 f184=>⟨tv,?_⟩)))⟩
 have hn185:x7.1.Next.length=y52.length:=(Jt2 hy52).2.2.2.symm
 exact Jp1 (Jr1 [] (by kernel_rfl) (by kernel_rfl) R (Jo (Jw1 _ ⟨(fun b=>ren [(21,18)] (K182 b)),R,(Jy2 ((S117.tr (S161.tr (S168.tr (S172.tr (S178.tr S183))))).wk R) [(21,18)] R),(f184.map (ren [(21,18)]) R R),hn185,((f164.stp (S168.tr (S172.tr (S178.tr S183))) R R).map (ren [(21,18)]) R R)⟩ (KM R))))
 refine Jn1 (κ:=K160) (E:=E6) 22 [] (parts:=[(0,.tmp 36)]) (cells:=[vi x36.1]) (xs:=([x36.1]:List Int)) R R R R R R Y22 Tryzinfo2 R R R R R R R R R R ⟨[vi x36.1],[],Zl K160 w156 [],Zl K160 w156 [],R,Zl.sp (l1:=[]) (l2:=[]) R,Zl.sr (l1:=[]) (l2:=[]),R,R⟩ fun aX aY w187 K188 S189 f190=>⟨((S161.tr S189).cl R),Jp1 (WA.forkB2r (fuel:=3) 1 11 (by kernel_rfl) R (by kernel_rfl) ?_ ?_)⟩
 refine Jl ((S161.tr S189).cl R) R R R R (Jc2 I23 R R (hvE ((f118.stp (S161.tr S189) R R).ld 1 R R))) (Jp1 (WA.brk (fuel:=2) 11 (by kernel_rfl) R (by kernel_rfl) ?_))
 have f192:=f119.stp (S161.tr S189) R R
 obtain⟨K193,S194,f195,f196⟩:=f192.borrow hx33 (hl121 _ (Stp.ag (S161.tr S189) R)) 23 R R
 refine Jm1 (κ:=K193) (E:=E6) 23 [] R R R R R R R R R Y22 Tryzinfo2 R R R R f195 (Sl.srcP (pu_int _) (f190.stp S194 R R).rdc) sy_false hx38 R fun aU aT w198 K199 S200 f201=>⟨tv,Jp1 (Jq1 (fuel:=0) [(12,2),(13,1)] (by kernel_rfl) (by kernel_rfl) R (Jf R (Jf2 f192.rdc hx39 U23 Z22 R R R R) (WO.stH (κ:=K199) (E:=(Ep.own E6 2)) 8 [23] R R R R R R R R Z22 R ⟨_,_,R,f201⟩ R R (f196.stp S200 R R) hy52 fun w203 K204 S205 f206=>⟨tv,?_⟩)))⟩
 have hn207:x7.1.Next.length=y52.length:=(Jt2 hy52).2.2.2.symm
 exact Jp1 (Jr1 [] (by kernel_rfl) (by kernel_rfl) R (Jo (Jw1 _ ⟨(fun b=>ren [(21,18)] (K204 b)),R,(Jy2 ((S117.tr (S161.tr (S189.tr (S194.tr (S200.tr S205))))).wk R) [(21,18)] R),(f206.map (ren [(21,18)]) R R),hn207,((f164.stp (S189.tr (S194.tr (S200.tr S205))) R R).map (ren [(21,18)]) R R)⟩ (KM R))))
 have f209:=f119.stp (S161.tr S189) R R
 obtain⟨K210,S211,f212,f213⟩:=f209.borrow hx33 (hl121 _ (Stp.ag (S161.tr S189) R)) 23 R R
 refine Jm1 (κ:=K210) (E:=E6) 23 [] R R R R R R R R R Y22 Tryzinfo2 R R R R f212 (Sl.srcP (pu_int _) (f190.stp S211 R R).rdc) sy_false hx38 R fun aU aT w215 K216 S217 f218=>⟨tv,Jp1 (Jq1 (fuel:=0) [(1,1),(12,2),(13,1)] (by kernel_rfl) (by kernel_rfl) R (Jl tv R R R R (Jc2 I23 R R (hvE ((f118.stp (S161.tr (S189.tr (S211.tr S217))) R R).ld 1 R R))) (Jf R (Jf2 f209.rdc hx39 U23 Z22 R R R R) (WO.stH (κ:=K216) (E:=(Ep.own E6 2)) 8 [23] R R R R R R R R Z22 R ⟨_,_,R,f218⟩ R R (f213.stp S217 R R) hy52 fun w221 K222 S223 f224=>⟨tv,?_⟩))))⟩
 have hn225:x7.1.Next.length=y52.length:=(Jt2 hy52).2.2.2.symm
 exact Jp1 (Jr1 [] (by kernel_rfl) (by kernel_rfl) R (Jo (Jw1 _ ⟨(fun b=>ren [(21,18)] (K222 b)),R,(Jy2 ((S117.tr (S161.tr (S189.tr (S211.tr (S217.tr S223))))).wk R) [(21,18)] R),(f224.map (ren [(21,18)]) R R),hn225,((f164.stp (S189.tr (S211.tr (S217.tr S223))) R R).map (ren [(21,18)]) R R)⟩ (KM R))))
 rintro _ w109 ⟨K110,rfl,S111,f113,hn114,f115⟩
 cases h
 exact Jw1 _ ⟨K110,af,ak,ac,ad,R,S111.wk R,(f17.stp (S22.tr (S25.tr (S34.tr (S54.tr (S64.tr S111))))) R R),f113,f115,(Bc.cast (f47.stp (S54.tr (S64.tr S111)) R R) (by simp only[hn114]))⟩ (KM R)
 rintro _ w101 ⟨K102,aK,aN,aq,ax,rfl,S103,f104,f105,f106,f107⟩
 have h:=hK100
 cases h
 exact Jw1 _ ⟨K102,aK,aN,aq,ax,R,S103.wk R,f104,f105,f106,f107⟩ (KM R)
 refine JT fun h=>Jx R (Js1 (κ:=K63) [9] none [(0,2),(2,2),(3,2),(1,0),(4,1),(5,2),(6,1)] [] (by kernel_rfl) (by kernel_rfl) fun w78 S77=>Jf R (Jb2 U37 R Z22 R R) (Jn 2 R ?_))
 have f79:=f47.stp (S54.tr (S64.tr S77)) R R
 refine Jg R (Jc2 I22 R R (hvC (f79.ld 0 R R) R)) (Ob h fun x23 hx23 h=>Jh R R R C111 (s_l1From_ok (κ:=fun b=>mp [(18,2)] 0 (K63 b)) (p0:=(⟨p0.b,x16.2.1,x16.2.2⟩:l1Cur)) (Jl2 (f58.stp (S64.tr S77) R R) (mp [(18,2)] 0) R R) ((f67.stp S77 R R).map (mp [(18,2)] 0) R R) hx23) ?_)
 rintro _ w82 ⟨k83,rfl,e84,f85⟩
 obtain⟨K86,S87,m88⟩:=Ji e84 19 R
 refine⟨(S87.cl R),Ob h fun x24 hx24 h=>Jf R (Jf2 f17.rdc hx24 U22 Z2 R R R R) (Ob h fun y49 hy49 h=>Jk1 (κ:=K86) (E:=E6) 7 [] R R R R R R R R Z2 R R R R (f17.stp (S22.tr (S25.tr (S34.tr (S54.tr (S64.tr (S77.tr S87)))))) R R) hy49 fun w92 K93 S94 f95=>⟨((S87.tr S94).cl R),?_⟩)⟩
 have hn96:x7.1.Owner.length=y49.length:=(Jt2 hy49).2.2.2.symm
 refine Jt1 (Jo ?_)
 cases h
 exact Jw1 _ ⟨(fun b=>ren [(21,18)] (K93 b)),af,ak,ac,ad,R,(Jy2 ((S77.tr (S87.tr S94)).wk R) [(21,18)] R),(f95.map (ren [(21,18)]) R R),((f18.stp (S22.tr (S25.tr (S34.tr (S54.tr (S64.tr (S77.tr (S87.tr S94))))))) R R).map (ren [(21,18)]) R R),(((f85.mx m88 R (R:19+2=21)).stp S94 R R).map (ren [(21,18)]) R R),(Bc.cast ((f79.stp (S87.tr S94) R R).map (ren [(21,18)]) R R) (by simp only[hn96]))⟩ (KM R)
 rintro _ w69 ⟨K70,ar,an,aL,aE,rfl,S71,f72,f73,f74,f75⟩
 have h:=hK68
 refine Jz ?_
 cases h
 exact Jw1 _ ⟨(fun b=>ren [(18,12)] (K70 b)),ar,an,aL,aE,R,(Jy2 ((S54.tr (S64.tr S71)).wk R) [(18,12)] R),(f72.map (ren [(18,12)]) R R),(f73.map (ren [(18,12)]) R R),(f74.map (ren [(18,12)]) R R),(f75.map (ren [(18,12)]) R R)⟩ (KM R)
 rintro _ w39 ⟨K40,ae,ah,aj,ai,rfl,S41,f42,f43,f44,f45⟩
 have h:=hK38
 refine Jp (Je [1,1] R (Jl tv R R R R (Jd2 (cs:=[.slice ae q1.2.2.1.length ah,.slice aj q1.2.2.2.length ai]) I37 Z37 R R R (haE f45.cells)) (Jj1 (κ:=K40) 3 (vc:=[.slice ae q1.2.2.1.length ah,.slice aj q1.2.2.2.length ai]) R R R R R R R Z37 R R (f4.stp (S14.tr (S22.tr (S25.tr (S34.tr S41)))) R R) R fun w386 S387 f388=>⟨tv,Jd (Ju (Ja2 (l:=[.cell 2 37]) V109 (res_cellA R f388 I37 Z37 R R) R ?_))⟩)))
 cases h
 exact⟨(fun b=>ren [(7,3),(8,4),(12,2)] (K40 b)),ae,ah,aj,ai,R,((hE.stp (S3.tr (S14.tr (S22.tr (S25.tr (S34.tr (S41.tr S387)))))) R R).map (ren [(7,3),(8,4),(12,2)]) R R),((f42.stp S387 R R).map (ren [(7,3),(8,4),(12,2)]) R R),((f43.stp S387 R R).map (ren [(7,3),(8,4),(12,2)]) R R),((f44.stp S387 R R).map (ren [(7,3),(8,4),(12,2)]) R R)⟩
theorem i_bothOf_ok {w:World}{κ:Col}{a0 u0}{p0:(List Int)}{a1 u1}{p1:(List Int)}(g0:Rd (Rp.int .i64) κ w 0 a0 u0 p0) (g1:Rd (Rp.int .i64) κ w 0 a1 u1 p1){r:(List Int)}(h:i_bothOf p0 p1=some r):Ret Tryz.prog 89 [.slice a0 p0.length u0,.slice a1 p1.length u1] w (fun v w'=>∃(κ':Col) (ra0:Option Addr) (ru0:Nat),v= .slice ra0 r.length ru0∧Ent κ w κ' w'∧Oc E6 2 κ' w' 2 ra0 ru0 r):=by
 unfold i_bothOf at h
 refine Ret.enter F89 R N89 R ?_
 dsimp only[envOf]
 have hE:=Ent.refl κ w
 refine Je [2] R (Jb 1 R (Je [1,2,1,2,2,1,1,2] R (Jo1 (κ:=κ) (E:=E6) 2 R R R R R Y22 Tryzinfo2 R fun a6 u6 w1 K2 S3 f4=>⟨tv,Jn 1 R (Ob h fun x8 hx8 h=>?_)⟩)))
 have f5:=g0.stp S3 R R
 refine Jm1 (κ:=K2) (E:=E6) 2 [] R R R R R R R R R Y22 Tryzinfo2 R R R R f4 (Sl.srcP (pu_int _) f5) sy_false hx8 R fun a8 u8 w6 K7 S8 f9=>⟨tv,Jn 2 R (Ob h fun x11 hx11 h=>Jh R R R C90 (i_lessOf_ok (κ:=fun b=>mp [] 0 (K7 b)) (Jl2 (g1.stp (S3.tr S8) R R) (mp [] 0) R R) (Jl2 (f5.stp S8 R R) (mp [] 0) R R) hx11) ?_)⟩
 rintro _ w12 ⟨k13,ad,ac,rfl,e14,f15⟩
 obtain⟨K16,S17,m18⟩:=Ji e14 3 R
 refine⟨tv,Ob h fun x12 hx12 h=>Jm1 (κ:=K16) (E:=E6) 2 [] R R R R R R R R R Y22 Tryzinfo2 R R R R (f9.stp S17 R R) (Sl.srcP (pu_int _) (f15.mx (no_int _) m18 R (R:3+2=5)).rdc) sy_false hx12 R fun ab aa w22 K23 S24 f25=>⟨tv,Jb 1 R (Je [2,1] R (Jn 1 R (Ob h fun x14 hx14 h=>Jh R R R C120 (slices_Sort_I_int64_ok (κ:=fun b=>mp [(2,2)] 0 (K23 b)) (f25.map (mp [(2,2)] 0) R R) hx14) ?_)))⟩⟩
 rintro _ w26 ⟨k27,rfl,e28,f29,hn30⟩
 obtain⟨K31,S32,m33⟩:=Ji e28 6 R
 refine⟨tv,Jd (Je [2,2] R (Jb 2 R (Ju (Ja2 (l:=[.tmp 4]) V89 (Jp2 R R) R ?_))))⟩
 cases h
 exact⟨(fun b=>ren [(8,2)] (K31 b)),ab,aa,(by simp only[(hn30)]),((hE.stp (S3.tr (S8.tr (S17.tr (S24.tr S32)))) R R).map (ren [(8,2)]) R R),((f29.mx (no_int _) m33 R (R:6+2=8)).map (ren [(8,2)]) R R)⟩
theorem s_SameArena_ok {w:World}{κ:Col}{ai aa ac ae}{p0:Arena}{af ah ab ad}{p1:Arena}(g0_0:Rd (Rp.int .i64) κ w 0 ai aa p0.Owner) (g0_1:Rd (Rp.sl (Rp.int .i64)) κ w 0 ac ae p0.Next) (g1_0:Rd (Rp.int .i64) κ w 0 af ah p1.Owner) (g1_1:Rd (Rp.sl (Rp.int .i64)) κ w 0 ab ad p1.Next){r:Bool}(h:s_SameArena p0 p1=some r):Ret Tryz.prog 56 [.agg #[.slice ai p0.Owner.length aa,.slice ac p0.Next.length ae],.agg #[.slice af p1.Owner.length ah,.slice ab p1.Next.length ad]] w (fun v w'=>∃(κ':Col),v= .bool r∧Ent κ w κ' w'):=by
 unfold s_SameArena at h
 refine Ret.enter F56 R N56 R ?_
 dsimp only[envOf]
 have hE:=Ent.refl κ w
 refine Je [1,1,2] R (Jf1 (κ:=κ) 2 R R R R R R R fun b2 w1 K2 S3 f4=>⟨tv,Jf1 (κ:=K2) 3 R R R R R R R fun b3 w5 K6 S7 f8=>⟨tv,Jb 1 R (Jq (Je [1,1,2,2,1,1,2,2,2,2,1,2,1,1,2,2] R ?_))⟩⟩)
 have f9:=f4.stp S7 R R
 refine Jl tv R R R R (Jd2 (cs:=[.slice ai p0.Owner.length aa,.slice ac p0.Next.length ae]) I37 Z37 R R R (haE f9.cells)) (Ob h fun x7 hx7 h=>?_)
 have f10:=g0_0.stp (S3.tr S7) R R
 have f11:=g0_1.stp (S3.tr S7) R R
 refine Jh R R R C95 (s_ArenaOk_ok (κ:=fun b=>mp [] 0 (K6 b)) (p0:=p0) (Jl2 f10 (mp [] 0) R R) (Jl2 f11 (mp [] 0) R R) hx7) ?_
 rintro _ w12 ⟨k13,rfl,e14⟩
 obtain⟨K15,S16,m17⟩:=Ji e14 4 R
 refine⟨tv,Jn 2 R (Ob h fun p13 h hK19=>Ju1 [(4,1),(5,1),(6,2),(7,2)] [(8,2),(9,2),(10,1),(11,2),(12,1),(13,1),(14,2),(15,2)] (fun L w'=>L=[(2,.pointer (some ⟨b2,0,none⟩)),(3,.pointer (some ⟨b3,0,none⟩)),(13,.bool p13)]∧∃κ',Stp [] K15 w12 κ' w') tv ?_ ?_)⟩
 revert h
 cases ht20:(!x7)
 refine JF fun h=>Jl tv R R R R (Jd2 (cs:=[.slice af p1.Owner.length ah,.slice ab p1.Next.length ad]) I37 Z37 R R R (haE (f8.stp S16 R R).cells)) (Ob h fun x11 hx11 h=>Jh R R R C95 (s_ArenaOk_ok (κ:=fun b=>mp [] 0 (K15 b)) (p0:=p1) (Jl2 (g1_0.stp (S3.tr (S7.tr S16)) R R) (mp [] 0) R R) (Jl2 (g1_1.stp (S3.tr (S7.tr S16)) R R) (mp [] 0) R R) hx11) ?_)
 rintro _ w24 ⟨k25,rfl,e26⟩
 obtain⟨K27,S28,m29⟩:=Ji e26 6 R
 refine⟨tv,Jn 2 R ?_⟩
 cases h
 exact Jv1 _ tv ⟨R,_,S28.wk R⟩ (KM R)
 refine JT fun h=>Jd1 R R R R (Jd1 R R R R (Jn 2 R ?_))
 cases h
 exact Jv1 _ tv ⟨R,_,(Jx2 _ _).wk R⟩ (KM R)
 rintro _ w31 _ ⟨rfl,K32,S33⟩
 have h:=hK19
 refine Jn 1 R (Ob h fun p21 h hK34=>Ju1 [(9,2),(10,1),(11,2),(12,1),(13,1),(14,2),(15,2)] [] (fun L w'=>L=[(2,.pointer (some ⟨b2,0,none⟩)),(3,.pointer (some ⟨b3,0,none⟩)),(21,.bool p21)]∧∃κ',Stp [] K32 w31 κ' w') tv ?_ ?_)
 revert h
 cases ht35:p13
 refine JF fun h=>Jf R (Jb2 U37 R Z22 R R) (Jl tv R R R R (Jc2 I22 R R (hvE ((f9.stp (S16.tr S33) R R).ld 0 R R))) (Jf R (Jb2 U37 R Z22 R R) (Jl tv R R R R (Jc2 I22 R R (hvE ((f8.stp (S16.tr S33) R R).ld 0 R R))) (Ob h fun x19 hx19 h=>Jh R R R C57 (s_l1Same_ok (κ:=fun b=>mp [] 0 (K32 b)) (Jl2 (f10.stp (S16.tr S33) R R) (mp [] 0) R R) (Jl2 (g1_0.stp (S3.tr (S7.tr (S16.tr S33))) R R) (mp [] 0) R R) hx19) ?_))))
 rintro _ w40 ⟨k41,rfl,e42⟩
 obtain⟨K43,S44,m45⟩:=Ji e42 6 R
 refine⟨tv,Jn 2 R ?_⟩
 cases h
 exact Jv1 _ tv ⟨R,_,S44.wk R⟩ (KM R)
 refine JT fun h=>Jn 1 R (Jd1 R R R R (Jn 1 R (Jd1 R R R R (Jd1 R R R R (Jn 2 R ?_)))))
 cases h
 exact Jv1 _ tv ⟨R,_,(Jx2 _ _).wk R⟩ (KM R)
 rintro _ w47 _ ⟨rfl,K48,S49⟩
 have h:=hK34
 refine Jd ?_
 revert h
 cases ht50:p21
 refine JF fun h=>Jy R (Js (Jp (Jq (Je [2] R (Jb 1 R ?_)))))
 have hN52:(p0.Next.length:Int)≤9223372036854775807:=f11.len_le
 refine Ob h fun q2 hq54 hK53=>?_
 clear h
 refine Jx1 (fun L w'=>∃κ',L=[]∧Stp [] K48 w47 κ' w'∧q2=Sum.inr ()) ?_ ?_
 refine Jv (Jy1 (fun k L w'=>∃κ' v5,L=[(2,.pointer (some ⟨b2,0,none⟩)),(3,.pointer (some ⟨b3,0,none⟩)),(5,vi v5)]∧Stp [] K48 w47 κ' w'∧0≤v5∧Int.toNat ((p0.Next.length:Int)-v5)=k∧cntM (s_SameArena_b0 p0 p1) k v5 ()=some q2) ⟨_,_,⟨K48,0,R,(Jx2 _ _).wk R,(by decide),(by simp),hq54⟩,(KM R)⟩ ?_)
 rintro k _ w58 ⟨K59,v5,rfl,S60,hj52,hJ52,h⟩
 rcases k with _ | k
 have hk61:=h;obtain⟨o52,h⟩:=ex_eq (Sum.inr (Sum.inl ()):Bool⊕((Unit)⊕(Unit)))
 have hc52:decide (v5<(p0.Next.length:Int))=false:=Jo2 (by omega)
 refine Jq (Je [2,2,1,2,2] R (Jn 1 R (Jf R (Jb2 U37 R Z23 R R) (Jl tv R R R R (Jc2 I23 R R (hvE ((f9.stp (S16.tr (S33.tr (S49.tr S60))) R R).ld 1 R R))) (Jf R (Je2 U23 R R) (Jb 1 R (Jw2 R hc52 (Jc1 (Jt (Jt ?_))))))))))
 cases h
 have h:=hk61
 refine Jb1 ?_
 cases h
 exact Jw1 _ ⟨K59,R,S60.wk R,R⟩ KN
 obtain⟨o52,h,hk61⟩:=BI h;unfold s_SameArena_b0 at h
 have hc52:decide (v5<(p0.Next.length:Int))=true:=Jn2 (by omega)
 refine Jq (Je [2,2,1,2,2] R (Jn 1 R (Jf R (Jb2 U37 R Z23 R R) ?_)))
 have f63:=f9.stp (S16.tr (S33.tr (S49.tr S60))) R R
 refine Jl tv R R R R (Jc2 I23 R R (hvE (f63.ld 1 R R))) (Jf R (Je2 U23 R R) (Jb 1 R (Jv2 R hc52 (Js (Jp (Jq (Jv (Jq (Js1 (κ:=K59) [0,2,3] none [(0,2),(2,2),(5,2),(7,2),(1,0),(3,2),(4,0),(6,0),(8,2),(9,0),(10,1),(11,2)] [] (by kernel_rfl) (by kernel_rfl) fun w65 S64=>Jf R (Jb2 U37 R Z23 R R) (Jn 1 R (Jf R (Jb2 U37 R Z23 R R) (Jn 1 R (Jg R (Jc2 I23 R R (hvC ((f63.stp S64 R R).ld 1 R R) R)) (Ob h fun x32 hx32 h=>Jf R (Jf2 f11 hx32 U23 Z22 R R R R) ?_))))))))))))))
 obtain⟨ax32,ux32,f68,hl69⟩:=(f11.stp (S16.tr (S33.tr (S49.tr (S60.tr S64)))) R R).gSl hx32
 refine Jg R (Jc2 I22 R R (hvC hl69 R)) (Jg R (Jc2 I23 R R (hvC ((f8.stp (S16.tr (S33.tr (S49.tr (S60.tr S64)))) R R).ld 1 R R) R)) (Ob h fun x37 hx37 h=>Jf R (Jf2 g1_1 hx37 U23 Z22 R R R R) ?_))
 obtain⟨ax37,ux37,f72,hl73⟩:=(g1_1.stp (S3.tr (S7.tr (S16.tr (S33.tr (S49.tr (S60.tr S64)))))) R R).gSl hx37
 refine Jg R (Jc2 I22 R R (hvC hl73 R)) (Ob h fun x39 hx39 h=>Jh R R R C57 (s_l1Same_ok (κ:=fun b=>mp [] 0 (K59 b)) (Jl2 f68 (mp [] 0) R R) (Jl2 f72 (mp [] 0) R R) hx39) ?_)
 rintro _ w74 ⟨k75,rfl,e76⟩
 obtain⟨K77,S78,m79⟩:=Ji e76 6 R
 refine⟨(S78.cl R),Jn 1 R (Jt1 (Jd ?_))⟩
 revert h
 cases ht81:(!x39)
 refine JF fun h=>Jy R (Js (Jz (Jp (Ja [2,2,2] R (Jc 3 R ?_)))))
 have hw52:IntKind.wrap .i64 (v5+1)=v5+1:=wr1 hj52 (Jm2 hc52) hN52
 rw[hw52]
 have hc52:=Jm2 hc52
 cases h
 exact Jz1 fun a ha=>⟨k,_,Ja3 _,⟨K77,v5+1,R,(S60.tr (S64.tr S78)).wk R,by omega,by omega,hk61⟩,(ha.mm R)⟩
 refine JT fun h=>Jx R (Je [2] R (Jb 1 R (Ju (Ja1 (Jw (Jw ?_))))))
 cases h
 obtain rfl:=Option.some.inj hk61
 have h:=hK53
 dsimp only[aft]at h
 refine Ja1 (Jq2 (Jw (Ja2 (l:=[.tmp 4]) V56 (Jp2 R R) R ?_)))
 cases h
 exact⟨K77,R,(hE.stp (S3.tr (S7.tr (S16.tr (S33.tr (S49.tr (S60.tr (S64.tr S78))))))) R R)⟩
 rintro _ w55 ⟨K56,rfl,S57,rfl⟩
 have h:=hK53
 dsimp only[aft]at h
 refine Jp (Je [2] R (Jb 1 R (Ju (Ja2 (l:=[.tmp 4]) V56 (Jp2 R R) R ?_))))
 cases h
 exact⟨K56,R,(hE.stp (S3.tr (S7.tr (S16.tr (S33.tr (S49.tr S57))))) R R)⟩
 refine JT fun h=>Jx R (Je [2] R (Jb 1 R (Ju (Jw (Ja2 (l:=[.tmp 4]) V56 (Jp2 R R) R ?_)))))
 cases h
 exact⟨K48,R,(hE.stp (S3.tr (S7.tr (S16.tr (S33.tr S49)))) R R)⟩
theorem s_l7Won_ok {w:World}{κ:Col}{ai ah af aj ak ae}{p0:Parity}(g0_0_0:Rd (Rp.int .i64) κ w 0 ai ah p0.Arena.Owner) (g0_0_1:Rd (Rp.sl (Rp.int .i64)) κ w 0 af aj p0.Arena.Next) (g0_1:Rd (Rp.int .i64) κ w 0 ak ae p0.Prio){r:(List Int)}(h:s_l7Won p0=some r):Ret Tryz.prog 97 [.agg #[.slice ai p0.Arena.Owner.length ah,.slice af p0.Arena.Next.length aj,.slice ak p0.Prio.length ae]] w (fun v w'=>∃(κ':Col) (ra0:Option Addr) (ru0:Nat),v= .slice ra0 r.length ru0∧Ent κ w κ' w'∧Oc E6 2 κ' w' 2 ra0 ru0 r):=by
 unfold s_l7Won at h
 refine Ret.enter F97 R N97 R ?_
 dsimp only[envOf]
 have hE:=Ent.refl κ w
 refine Je [1,2] R (Jf1 (κ:=κ) 2 R R R R R R R fun b1 w1 K2 S3 f4=>⟨tv,Jb 1 R (Jq (Js1 (κ:=K2) [2] none [(2,2),(0,0),(3,0),(4,2),(1,1),(5,1),(6,1),(7,2)] [] (by kernel_rfl) (by kernel_rfl) fun w6 S5=>Jf R (Jb2 U39 R Z22 R R) ?_))⟩)
 have f7:=f4.stp S5 R R
 refine Jg R (Jd2 (cs:=[.slice ai p0.Arena.Owner.length ah,.slice af p0.Arena.Next.length aj,.slice ak p0.Prio.length ae]) I39 Z39 R R R (haC f7.cells R)) (Jg R (Jc2 I22 R R (hvC (f7.ld 2 R R) R)) (Jf R (Je2 U22 R R) (Ob h fun x7 hx7 h=>Jh R R R C98 (s_l7Of_ok (κ:=fun b=>mp [] 1 (K2 b)) (p0:=p0) (Jl2 (g0_0_0.stp (S3.tr S5) R R) (mp [] 1) R R) (Jl2 (g0_0_1.stp (S3.tr S5) R R) (mp [] 1) R R) (Jl2 (g0_1.stp (S3.tr S5) R R) (mp [] 1) R R) hx7) ?_)))
 rintro _ w11 ⟨k12,aw,aF,ay,az,aC,aA,ar,au,aD,av,rfl,e13,f14,f15,f16,f17,f18⟩
 obtain⟨K19,S20,m21,z22⟩:=Jj e13 3 R
 refine⟨(S20.cl R),Ob h fun x11 hx11 h=>Jh R R R C127 (s_l7All_ok (κ:=fun b=>mp [] 0 (K19 b)) hx11) ?_⟩
 rintro _ w28 ⟨k29,aG,ax,rfl,e30,f31⟩
 obtain⟨K32,S33,m34⟩:=Ji e30 10 R
 refine⟨((S20.tr S33).cl R),Ob h fun x12 hx12 h=>Jh R R R C126 (s_l7Win_ok _ (κ:=fun b=>mp [] 0 (K32 b)) (p0:=x7) (Jl2 ((f14.mx z22).stp S33 R R) (mp [] 0) R R) (Jl2 ((f15.mx z22).stp S33 R R) (mp [] 0) R R) (Jl2 ((f16.mx z22).stp S33 R R) (mp [] 0) R R) (Jl2 ((f17.mx (no_own (no_int _) _) m21 R (R:3+5=8)).stp S33 R R).rdc (mp [] 0) R R) (Jl2 ((f18.mx (no_int _) m21 R (R:3+6=9)).stp S33 R R).rdc (mp [] 0) R R) (Jl2 (f31.mx no_bool m34 R (R:10+2=12)).rdc (mp [] 0) R R) hx12) ?_⟩
 rintro _ w42 ⟨k43,al,ap,rfl,e44,f45⟩
 obtain⟨K46,S47,m48⟩:=Ji e44 13 R
 refine⟨((S20.tr (S33.tr S47)).cl R),?_⟩
 have f50:=f45.mx no_bool m48 R (R:13+2=15)
 refine Jn 1 R (Jt1 (Jd (Je [1,2] R (Jo1 (κ:=K46) (E:=E6) 16 R R R R R Y22 Tryzinfo2 R fun am aq w51 K52 S53 f54=>⟨tv,Jb 1 R (Jq (Je [2] R (Jb 1 R ?_)))⟩))))
 have hN55:(x12.length:Int)≤9223372036854775807:=f50.len_le
 refine Ob h fun q2 hq57 hK56=>?_
 clear h
 refine Jx1 (fun L w'=>∃κ',∃s3:(List Int),∃ac aa,L=[(4,.slice ac s3.length aa)]∧Stp [16] K52 w51 κ' w'∧Oc E6 2 κ' w' 16 ac aa s3∧q2=Sum.inr s3) ?_ ?_
 refine Jv (Jy1 (fun k L w'=>∃κ' v5,∃s1:(List Int),∃ad ab,L=[(3,.slice al x12.length ap),(4,.slice ad s1.length ab),(5,vi v5)]∧Stp [16] K52 w51 κ' w'∧Oc E6 2 κ' w' 16 ad ab s1∧0≤v5∧Int.toNat ((x12.length:Int)-v5)=k∧cntM (s_l7Won_b0 x12) k v5 s1=some q2) ⟨_,_,⟨K52,0,(([]:List Int):(List Int)),am,aq,R,(Jx2 _ _).wk R,f54,(by decide),(by simp),hq57⟩,(KM R)⟩ ?_)
 rintro k _ w62 ⟨K63,v5,s1,ad,ab,rfl,S64,f65,hj55,hJ55,h⟩
 rcases k with _ | k
 have hk66:=h;obtain⟨o55,h⟩:=ex_eq (Sum.inr (Sum.inl s1):(List Int)⊕(((List Int))⊕((List Int))))
 have hc55:decide (v5<(x12.length:Int))=false:=Jo2 (by omega)
 refine Jq (Je [2,2,2,2] R (Jn 2 R (Jf R (Je2 U70 R R) (Jb 1 R (Jw2 R hc55 (Jc1 (Jt (Jt ?_))))))))
 cases h
 have h:=hk66
 refine Jb1 ?_
 cases h
 exact Jw1 _ ⟨K63,(s1:(List Int)),ad,ab,R,S64.wk R,f65,R⟩ (KM R)
 obtain⟨o55,h,hk66⟩:=BI h;unfold s_l7Won_b0 at h
 have hc55:decide (v5<(x12.length:Int))=true:=Jn2 (by omega)
 refine Jq (Je [2,2,2,2] R (Jn 2 R (Jf R (Je2 U70 R R) (Jb 1 R (Jv2 R hc55 (Js (Jp (Jq (Jv (Ja [2,2,2,2,1,1,2,1,1,2] R (Jn 3 R (Ob h fun x23 hx23 h=>Jf R (Jf2 f50.rdc hx23 U70 Z4 R R R R) (Jl tv R R R R (Jc2 I4 R R (hvE ((f50.stp (S53.tr S64) R R).rdc.gBool hx23))) (Ob h fun x25 hx25 h=>Jh R R R C128 (s_l1Flag_ok (κ:=fun b=>mp [] 0 (K63 b)) hx25) ?_))))))))))))))
 rintro _ w68 ⟨k69,rfl,e70⟩
 obtain⟨K71,S72,m73⟩:=Ji e70 17 R
 refine⟨tv,Jn 1 R (Jn1 (κ:=K71) (E:=E6) 19 [] (parts:=[(0,.tmp 26)]) (cells:=[vi (IntKind.i64.wrap (1-x25))]) (xs:=([(IntKind.i64.wrap (1-x25))]:List Int)) R R R R R R Y22 Tryzinfo2 R R R R R R R R R R ⟨[vi (IntKind.i64.wrap (1-x25))],[],Zl K71 w68 [],Zl K71 w68 [],R,Zl.sp (l1:=[]) (l2:=[]) R,Zl.sr (l1:=[]) (l2:=[]),R,R⟩ fun aE aB w75 K76 S77 f78=>⟨tv,Ob h fun x28 hx28 h=>Jm1 (κ:=K76) (E:=E6) 16 [] R R R R R R R R R Y22 Tryzinfo2 R R R R (f65.stp (S72.tr S77) R R) (Sl.srcP (pu_int _) f78.rdc) sy_false hx28 R fun ao an w80 K81 S82 f83=>⟨tv,Jc 1 R (Jz (Jp (Ja [2,2,2] R (Jc 3 R ?_))))⟩⟩)⟩
 have hw55:IntKind.wrap .i64 (v5+1)=v5+1:=wr1 hj55 (Jm2 hc55) hN55
 rw[hw55]
 have hc55:=Jm2 hc55
 cases h
 exact Jz1 fun a ha=>⟨k,_,Ja3 _,⟨K81,v5+1,(x28:(List Int)),ao,an,R,(S64.tr (S72.tr (S77.tr S82))).wk R,f83,by omega,by omega,hk66⟩,(ha.mm R)⟩
 rintro _ w58 ⟨K59,s3,ac,aa,rfl,S60,f61,rfl⟩
 have h:=hK56
 dsimp only[aft]at h
 refine Jp (Je [2,2] R (Jb 2 R (Ju (Ja2 (l:=[.tmp 2]) V97 (Jp2 R R) R ?_))))
 cases h
 exact⟨(fun b=>ren [(16,2)] (K59 b)),ac,aa,R,((hE.stp (S3.tr (S5.tr (S20.tr (S33.tr (S47.tr (S53.tr S60)))))) R R).map (ren [(16,2)]) R R),(f61.map (ren [(16,2)]) R R)⟩
theorem s_l7Holds_ok {w:World}{κ:Col}{ak aa ac af ad aj ab ah ai ae}{p0:l7Game}{a1 u1}{p1:(List Bool)}{p2:Int}(g0_0:Rd (Rp.int .i64) κ w 0 ak aa p0.owner) (g0_1:Rd (Rp.int .i64) κ w 0 ac af p0.prio) (g0_2:Rd (Rp.sl (Rp.int .i64)) κ w 0 ad aj p0.next) (g0_3:Rd (Rp.sl (Rp.int .i64)) κ w 0 ab ah p0.prev) (g0_4:Rd (Rp.int .i64) κ w 0 ai ae p0.pick) (g1:Rd Rp.bool κ w 0 a1 u1 p1){r:Bool}(h:s_l7Holds p0 p1 p2=some r):Ret Tryz.prog 129 [.agg #[.slice ak p0.owner.length aa,.slice ac p0.prio.length af,.slice ad p0.next.length aj,.slice ab p0.prev.length ah,.slice ai p0.pick.length ae],.slice a1 p1.length u1,vi p2] w (fun v w'=>∃(κ':Col),v= .bool r∧Ent κ w κ' w'):=by
 unfold s_l7Holds at h
 refine Ret.enter F129 R N129 R ?_
 dsimp only[envOf]
 have hE:=Ent.refl κ w
 refine Je [1,2] R (Jf1 (κ:=κ) 2 R R R R R R R fun b3 w1 K2 S3 f4=>⟨tv,Jb 1 R (Je [1,2,1,2] R (Jl tv R R R R (Jd2 (cs:=[.slice ak p0.owner.length aa,.slice ac p0.prio.length af,.slice ad p0.next.length aj,.slice ab p0.prev.length ah,.slice ai p0.pick.length ae]) I111 Z111 R R R (haE f4.cells)) (Jn 1 R (Ob h fun x11 hx11 h=>?_))))⟩)
 have f10:=g1.stp S3 R R
 refine Jh R R R C126 (s_l7Win_ok _ (κ:=fun b=>mp [] 0 (K2 b)) (p0:=p0) (Jl2 (g0_0.stp S3 R R) (mp [] 0) R R) (Jl2 (g0_1.stp S3 R R) (mp [] 0) R R) (Jl2 (g0_2.stp S3 R R) (mp [] 0) R R) (Jl2 (g0_3.stp S3 R R) (mp [] 0) R R) (Jl2 (g0_4.stp S3 R R) (mp [] 0) R R) (Jl2 f10 (mp [] 0) R R) hx11) ?_
 rintro _ w11 ⟨k12,am,al,rfl,e13,f14⟩
 obtain⟨K15,S16,m17⟩:=Ji e13 3 R
 refine⟨tv,?_⟩
 have f19:=f14.mx no_bool m17 R (R:3+2=5)
 refine Jb 1 R (Jq (Je [2] R (Jb 1 R ?_)))
 have hN20:(p1.length:Int)≤9223372036854775807:=f10.len_le
 refine Ob h fun q2 hq22 hK21=>?_
 clear h
 refine Jx1 (fun L w'=>∃κ',L=[]∧Stp [] K15 w11 κ' w'∧q2=Sum.inr ()) ?_ ?_
 refine Jv (Jy1 (fun k L w'=>∃κ' v8,L=[(1,.slice a1 p1.length u1),(2,vi p2),(7,.slice am x11.length al),(8,vi v8)]∧Stp [] K15 w11 κ' w'∧0≤v8∧Int.toNat ((p1.length:Int)-v8)=k∧cntM (s_l7Holds_b0 p1 p2 x11) k v8 ()=some q2) ⟨_,_,⟨K15,0,R,(Jx2 _ _).wk R,(by decide),(by simp),hq22⟩,(KM R)⟩ ?_)
 rintro k _ w26 ⟨K27,v8,rfl,S28,hj20,hJ20,h⟩
 rcases k with _ | k
 have hk29:=h;obtain⟨o20,h⟩:=ex_eq (Sum.inr (Sum.inl ()):Bool⊕((Unit)⊕(Unit)))
 have hc20:decide (v8<(p1.length:Int))=false:=Jo2 (by omega)
 refine Jq (Je [2,2,2,2] R (Jn 2 R (Jf R (Je2 U70 R R) (Jb 1 R (Jw2 R hc20 (Jc1 (Jt (Jt ?_))))))))
 cases h
 have h:=hk29
 refine Jb1 ?_
 cases h
 exact Jw1 _ ⟨K27,R,S28.wk R,R⟩ KN
 obtain⟨o20,h,hk29⟩:=BI h;unfold s_l7Holds_b0 at h
 have hc20:decide (v8<(p1.length:Int))=true:=Jn2 (by omega)
 refine Jq (Je [2,2,2,2] R (Jn 2 R (Jf R (Je2 U70 R R) (Jb 1 R (Jv2 R hc20 (Js (Jp (Jq (Jv (Je [2,2,2,1,2,2,2,2,1,2,2,2,2] R (Jn 2 R (Ob h fun x20 hx20 h=>Jf R (Jf2 f10 hx20 U70 Z4 R R R R) (Jl tv R R R R (Jc2 I4 R R (hvE ((f10.stp (S16.tr S28) R R).gBool hx20))) (Jn 1 R (Ob h fun p30 h hK31=>Ju1 [(5,2),(6,2),(7,2),(8,1),(9,2),(10,2),(11,2),(12,2)] [] (fun L w'=>L=[(1,.slice a1 p1.length u1),(2,vi p2),(7,.slice am x11.length al),(8,vi v8),(30,.bool p30)]∧∃κ',Stp [] K27 w26 κ' w') tv ?_ ?_)))))))))))))))
 revert h
 cases ht32:x20
 refine JF fun h=>Jn 3 R (Jd1 R R R R (Jn 4 R ?_))
 cases h
 exact Jv1 _ tv ⟨R,_,(Jx2 _ _).wk R⟩ (KM R)
 refine JT fun h=>Jn 2 R (Ob h fun x25 hx25 h=>Jf R (Jf2 f19.rdc hx25 U70 Z4 R R R R) (Jl tv R R R R (Jc2 I4 R R (hvE ((f19.stp S28 R R).rdc.gBool hx25))) (Jn 2 R (Jf R (rn_neqB R R U4 R) (Jn 1 R ?_)))))
 cases h
 exact Jv1 _ tv ⟨R,_,(Jx2 _ _).wk R⟩ (KM R)
 rintro _ w34 _ ⟨rfl,K35,S36⟩
 have h:=hK31
 refine Jd ?_
 revert h
 cases ht37:p30
 refine JF fun h=>Jy R (Js (Jz (Jp (Ja [2,2,2] R (Jc 3 R ?_)))))
 have hw20:IntKind.wrap .i64 (v8+1)=v8+1:=wr1 hj20 (Jm2 hc20) hN20
 rw[hw20]
 have hc20:=Jm2 hc20
 cases h
 exact Jz1 fun a ha=>⟨k,_,Ja3 _,⟨K35,v8+1,R,(S28.tr S36).wk R,by omega,by omega,hk29⟩,(ha.mm R)⟩
 refine JT fun h=>Jx R (Je [2] R (Jb 1 R (Ju (Ja1 (Jw (Jw ?_))))))
 cases h
 obtain rfl:=Option.some.inj hk29
 have h:=hK21
 dsimp only[aft]at h
 refine Ja1 (Jq2 (Jw (Ja2 (l:=[.tmp 6]) V129 (Jp2 R R) R ?_)))
 cases h
 exact⟨K35,R,(hE.stp (S3.tr (S16.tr (S28.tr S36))) R R)⟩
 rintro _ w23 ⟨K24,rfl,S25,rfl⟩
 have h:=hK21
 dsimp only[aft]at h
 refine Jp (Je [2] R (Jb 1 R (Ju (Ja2 (l:=[.tmp 6]) V129 (Jp2 R R) R ?_))))
 cases h
 exact⟨K24,R,(hE.stp (S3.tr (S16.tr S25)) R R)⟩
theorem i_winsBy_ok {w:World}{κ:Col}{aa ad ab ac ae af}{p0:Parity}{p1:Int}{a2 u2}{p2:(List Int)}{a3 u3}{p3:(List Int)}(g0_0_0:Rd (Rp.int .i64) κ w 0 aa ad p0.Arena.Owner) (g0_0_1:Rd (Rp.sl (Rp.int .i64)) κ w 0 ab ac p0.Arena.Next) (g0_1:Rd (Rp.int .i64) κ w 0 ae af p0.Prio) (g2:Rd (Rp.int .i64) κ w 0 a2 u2 p2) (g3:Rd (Rp.int .i64) κ w 0 a3 u3 p3){r:Bool}(h:i_winsBy p0 p1 p2 p3=some r):Ret Tryz.prog 81 [.agg #[.slice aa p0.Arena.Owner.length ad,.slice ab p0.Arena.Next.length ac,.slice ae p0.Prio.length af],vi p1,.slice a2 p2.length u2,.slice a3 p3.length u3] w (fun v w'=>∃(κ':Col),v= .bool r∧Ent κ w κ' w'):=by
 unfold i_winsBy at h
 refine Ret.enter F81 R N81 R ?_
 dsimp only[envOf]
 have hE:=Ent.refl κ w
 refine Je [1,2] R (Jf1 (κ:=κ) 2 R R R R R R R fun b4 w1 K2 S3 f4=>⟨tv,Jb 1 R (Je [2,1,2,2,2,1,2,1,2,2,2,1,2,2,2,2] R (Jf R (Jb2 U39 R Z37 R R) (Jl tv R R R R (Jd2 (cs:=[.slice aa p0.Arena.Owner.length ad,.slice ab p0.Arena.Next.length ac]) I37 Z37 R R R (haE (f4.lds 0 2 R))) (Jn 3 R (Ob h fun x14 hx14 h=>?_)))))⟩)
 have f5:=g0_0_0.stp S3 R R
 have f6:=g0_0_1.stp S3 R R
 have f7:=g2.stp S3 R R
 have f8:=g3.stp S3 R R
 refine Jh R R R C115 (i_closedIn_ok (κ:=fun b=>mp [] 0 (K2 b)) (p0:=p0.Arena) (Jl2 f5 (mp [] 0) R R) (Jl2 f6 (mp [] 0) R R) (Jl2 f7 (mp [] 0) R R) (Jl2 f8 (mp [] 0) R R) hx14) ?_
 rintro _ w9 ⟨k10,rfl,e11⟩
 obtain⟨K12,S13,m14⟩:=Ji e11 3 R
 refine⟨tv,Jn 1 R (Ob h fun p23 h hK16=>Ju1 [(7,1),(8,2),(9,2),(10,2),(11,1),(12,2),(13,2),(14,2)] [(15,2)] (fun L w'=>L=[(8,.bool false),(23,.bool p23)]∧∃κ',Stp [] K12 w9 κ' w') tv ?_ ?_)⟩
 revert h
 cases ht17:x14
 refine JF fun h=>Jd1 R R R R (Jn 3 R (Jd1 R R R R (Jn 3 R ?_)))
 cases h
 exact Jv1 _ tv ⟨R,_,(Jx2 _ _).wk R⟩ (KM R)
 refine JT fun h=>Jl tv R R R R (Jd2 (cs:=[.slice aa p0.Arena.Owner.length ad,.slice ab p0.Arena.Next.length ac,.slice ae p0.Prio.length af]) I39 Z39 R R R (haE (f4.stp S13 R R).cells)) (Jn 3 R (Ob h fun x20 hx20 h=>Jh R R R C116 (i_badLoops_ok (κ:=fun b=>mp [] 0 (K12 b)) (p0:=p0) (Jl2 (f5.stp S13 R R) (mp [] 0) R R) (Jl2 (f6.stp S13 R R) (mp [] 0) R R) (Jl2 (g0_1.stp (S3.tr S13) R R) (mp [] 0) R R) (Jl2 (f7.stp S13 R R) (mp [] 0) R R) (Jl2 (f8.stp S13 R R) (mp [] 0) R R) hx20) ?_))
 rintro _ w24 ⟨k25,ah,ai,rfl,e26,f27⟩
 obtain⟨K28,S29,m30⟩:=Ji e26 5 R
 refine⟨tv,Jf R (Je2 U22 R R) (Jn 2 R ?_)⟩
 cases h
 exact Jv1 _ tv ⟨R,_,S29.wk R⟩ (KM R)
 rintro _ w33 _ ⟨rfl,K34,S35⟩
 have h:=hK16
 refine Jb 1 R (Ju (Ja2 (l:=[.tmp 8]) V81 (Jp2 R R) R ?_))
 cases h
 exact⟨K34,R,(hE.stp (S3.tr (S13.tr S35)) R R)⟩
end Go.Proofs.YtmiilifclnanlaaGreat
