/- The walks, part 10. By program. -/
import Derived.Test.YtleekpaohfpooaaGreatFns9VF
set_option linter.unusedVariables false
set_option linter.unusedSimpArgs false
open Go.IntKind renaming wrap → bM
open Sum renaming inr → cb, inl → eg
open Int renaming toNat → hV
namespace Go.Proofs.YtleekpaohfpooaaGreat
open Go Go.Wk Go.Proofs
set_option maxRecDepth 100000
set_option maxHeartbeats 1000000
variable {w:World}{κ:Col}
theorem kQ {p0:Sig}{A C B F}{p1:Det}{D G H E}{p2:Det}(au:Rd (Rp.sl (Rp.int .i64)) κ w 0 A C p1.Next) (av:Rd Pair.rp κ w 0 B F p1.Pairs) (L:Rd (Rp.sl (Rp.int .i64)) κ w 0 D G p2.Next) (M:Rd Pair.rp κ w 0 H E p2.Pairs){r:Det×Bool}(h:j5 p0 p1 p2=some r):Ret Tryz.prog 121 [.agg #[vi p0.In,vi p0.Out],.agg #[.slice A p1.Next.length C,.slice B p1.Pairs.length F],.agg #[.slice D p2.Next.length G,.slice H p2.Pairs.length E]] w (λv w'=>∃(κ':Col) (S:Option Addr) (U:Nat) (T:Option Addr) (V:Nat),v= .tuple #[.agg #[.slice S r.1.Next.length U,.slice T r.1.Pairs.length V],.bool r.2]/\Ent κ w κ' w'/\Oc (Ep.own E6 2) 37 κ' w' 2 S U r.1.Next/\Oc Pair.ep127 127 κ' w' 3 T V r.1.Pairs):=by
 unfold j5 at h
 refine Jk3 κ F121 R N121 R λN=>Je [1,1,1,1,2] R<|Js3 (κ:=κ) 2 R λaG w1 Y k am=>Tv<|Js3 (κ:=Y) 3 R λaH aX aa j aq=>Tv<|Js3 (κ:=aa) 4 R λaI a3 W f p=>Tv<|Jt3 (κ:=W) 5 R X71 R λaJ aU X c I=>Tv<|Jb 1 R<|Jq<|Je [1,1,1,2,2,1,1,1,2,2,2,2,1,2,2,1,2,2,2,2] R ?_
 have q:=am.stp (T3 j f c)
 refine Jb4 tv R (Jc4 (haE q.cells) I28 Z28 R) ?_
 have s:=aq.stp (f.tr c)
 refine Jb4 tv R (Jc4 (haE s.cells) I71 Z71 R)<|Ob h λaE ay h=>?_
 have J:=au.stp (T4 k j f c)
 have K:=av.stp (T4 k j f c)
 refine Jr3 R C123 (kP (κ:=Mk X) (p0:=p0) (p1:=p1) (Ji3 J) (Ji3 K) ay) ?_
 rintro _ aC ⟨aN,rfl,ai⟩
 obtain⟨t,a,aR⟩:=Ji ai 6 R
 refine Tv<|Jn 2 R<|Ob h λP h aw=>Jf4 [3,4,5,6] 17 P t aC [(5,1),(6,1),(7,1),(8,2),(9,2)] [(10,2),(11,2),(12,1),(13,2),(14,2),(15,1),(16,2),(17,2),(18,2),(19,2)] tv ?_ ?_
 revert h
 cases aK:(!aE)
 have x:=(T5 k j f c a)
 refine JF λh=>Jb4 tv R (Jc4 (haE (q.stp a).cells) I28 Z28 R)<|Jb4 tv R (Jc4 (haE (p.stp<|c.tr a).cells) I71 Z71 R)<|Ob h λa4 az h=>Jr3 R C123 (kP (κ:=Mk t) (p0:=p0) (p1:=p2) (Ji3<|L.stp x) (Ji3<|M.stp x) az) ?_
 rintro _ aV ⟨aO,rfl,aj⟩
 obtain⟨aF,ac,aS⟩:=Ji aj 8 R
 refine Tv<|Jn 2 R ?_
 cases h
 exact Jv1 _ tv ⟨R,_,ac.wk R⟩<|KM R
 refine JT λh=>Jz3 R<|Jz3 R<|Jz3 R<|Jn 2 R ?_
 cases h
 exact Jg4 tv R
 rintro _ aD _ ⟨rfl,Z,d⟩
 have h:=aw
 refine Jn 1 R<|Ob h λQ h ax=>Jf4 [3,4,5,6] 27 Q Z aD [(11,2),(12,1),(13,2),(14,2),(15,1),(16,2),(17,2),(18,2),(19,2)] [] tv ?_ ?_
 revert h
 cases aL:P
 refine JF λh=>Jd3 R U71 R Z69<|Jb3 R I69 ((s.stp<|a.tr d).ld 1 R R)<|Jn3 R U69 R R<|Jd3 R U71 R Z69<|Jb3 R I69 ((p.stp<|T3 c a d).ld 1 R R)<|Jn3 R U69 R R<|Jn 3 R ?_
 cases h
 exact Jg4 tv R
 refine JT λh=>Jn 1 R<|Jz3 R<|Jn 2 R<|Jz3 R<|Jn 4 R ?_
 cases h
 exact Jg4 tv R
 rintro _ aW _ ⟨rfl,m,e⟩
 have h:=ax
 refine Jd ?_
 revert h
 cases aM:Q
 refine JF λh=>Jy R<|Js<|Jp<|Jq<|Js1 (κ:=m) [2,3,4] none [(0,0),(1,0),(2,0),(3,1),(4,1),(5,2),(6,2),(7,1),(8,2)] [] (by kernel_rfl) (by kernel_rfl) λaZ g=>Jg R (Jc4 (haC (s.stp<|T4 a d e g).cells R) I71 Z71 R)<|Jg R (Jc4 (haC (p.stp<|T5 c a d e g).cells R) I71 Z71 R)<|Jg R (Jc4 (haC (q.stp<|T4 a d e g).cells R) I28 Z28 R)<|Ob h λa5 aA h=>Jr3 R C120 (fh (κ:=Mk m) (p0:=p0) aA) ?_
 rintro _ a0 ⟨aP,rfl,ak⟩
 obtain⟨ab,i,aT⟩:=Ji ak 8 R
 have y:=(T9 k j f c a d e g i)
 have z:=(T5 a d e g i)
 refine⟨(i.cl R),Ob h λa6 aB h=>Jr3 R C186 (qy (κ:=Mk ab) (p0:=p1) (p1:=p2) (Ji3<|J.stp z) (Ji3<|K.stp z) (Ji3<|L.stp y) (Ji3<|M.stp y) aB) ?_⟩
 rintro _ a1 ⟨aQ,ag,af,ah,ae,rfl,al,ao,ap⟩
 obtain⟨u,n,O⟩:=Ji al 10 R
 refine⟨((i.tr n).cl R),Jn 2 R<|Jh4 (κ:=u) 5 R Z71 R (I.stp<|T6 a d e g i n) R λa2 o ar=>⟨((T3 i n o).cl R),Jn 1 R<|Jt1<|Jd<|Ju<|Ja2 (l:=[.cell 6 71,.tmp 7]) V121 (cd R ar I71 Z71 R<|Jp2 R R) R ?_⟩⟩
 cases h
 exact⟨(λb=>ren [(12,2),(13,3)]<|u b),ag,af,ah,ae,R,((N.stp<|T11 k j f c a d e g i n o).map (ren [(12,2),(13,3)]) R R),(((ao.mx (df (cc _) _) O R (R:10+2=12)).stp o).map (ren [(12,2),(13,3)]) R R),(((ap.mx Pair.no127 O R (R:10+3=13)).stp o).map (ren [(12,2),(13,3)]) R R)⟩
 refine JT λh=>Jx R<|Je [2,1,2] R<|Jf R (Ji4 [.slice none 0 0,.slice none 0 0] R)<|Jh4 (κ:=m) 5 R Z71 R (I.stp<|T3 a d e) R λaY ad an=>Tv<|Jb 1 R<|Ju<|Jw<|Ja2 (l:=[.cell 6 71,.tmp 7]) V121 (cd R an I71 Z71 R<|Jp2 R R) R ?_
 cases h
 exact⟨m,none,0,none,0,R,(N.stp<|T8 k j f c a d e ad),Ow.nil,Ow.nil⟩
theorem qp {p0:Sig}{b1 b0 b2 b3}{p1:Det}(d3:Rd (Rp.sl (Rp.int .i64)) κ w 0 b1 b0 p1.Next) (d4:Rd Pair.rp κ w 0 b2 b3 p1.Pairs){r:Arena×(List Pair)×Bool}(h:iV p0 p1=some r):Ret Tryz.prog 65 [.agg #[vi p0.In,vi p0.Out],.agg #[.slice b1 p1.Next.length b0,.slice b2 p1.Pairs.length b3]] w (λv w'=>∃(κ':Col) (cz:Option Addr) (cC:Nat) (cA:Option Addr) (cD:Nat) (cB:Option Addr) (cE:Nat),v= .tuple #[.agg #[.slice cz r.1.Owner.length cC,.slice cA r.1.Next.length cD],.slice cB r.2.1.length cE,.bool r.2.2]/\Ent κ w κ' w'/\Oc E6 2 κ' w' 2 cz cC r.1.Owner/\Oc (Ep.fz (Rp.sl (Rp.int .i64))) 37 κ' w' 3 cA cD r.1.Next/\Oc Pair.ep127 127 κ' w' 4 cB cE r.2.1):=by
 unfold iV at h
 refine Jk3 κ F65 R N65 R λcq=>Je [1,1,1,2,2] R<|Js3 (κ:=κ) 2 R λe4 w1 cU ax dP=>Tv<|Js3 (κ:=cU) 3 R λe5 ga cZ W dX=>Tv<|Jt3 (κ:=cZ) 4 R X75 R λe6 gg cM A b5=>Tv<|Jb 2 R<|Jq<|Je [1,1,1,2] R ?_
 have b6:=dP.stp (W.tr A)
 refine Jb4 tv R (Jc4 (haE b6.cells) I28 Z28 R) ?_
 have b9:=dX.stp A
 refine Jb4 tv R (Jc4 (haE b9.cells) I71 Z71 R)<|Ob h λeW eF h=>?_
 have a1:=d3.stp (T3 ax W A)
 have ag:=d4.stp (T3 ax W A)
 refine Jr3 R C123 (kP (κ:=Mk cM) (p0:=p0) (p1:=p1) (Ji3 a1) (Ji3 ag) eF) ?_
 rintro _ fT ⟨fz,rfl,dj⟩
 obtain⟨bG,o,fE⟩:=Ji dj 5 R
 refine Tv<|Jb 1 R ?_
 revert h
 cases fx:(!eW)
 refine JF λh=>Jy R<|Js<|Jp<|Je [2,1,2,2] R<|Jd3 R U71 R Z31 ?_
 have a2:=b9.stp o
 refine Jb3 R I31 (a2.ld 0 R R)<|Jn3 R U31 R R<|Jb 1 R<|Je [1,1,2] R ?_
 have ck:=b6.stp o
 refine Jb4 tv R (Jc4 (haE ck.cells) I28 Z28 R)<|Ob h λn eG h=>Jr3 R C129 (jw (κ:=Mk bG) (p0:=p0) eG) ?_
 rintro _ f8 ⟨fC,rfl,dm⟩
 obtain⟨cY,u,fF⟩:=Ji dm 7 R
 refine Tv<|Jb 1 R<|Je [2,1,1] R<|Jf R (Ji4 [.slice none 0 0,.slice none 0 0] R)<|Jt3 (κ:=cY) 9 R X75 R λF f9 ai x dQ=>Tv<|Jh4 (κ:=ai) 9 R Z75 R dQ R λcI y dR=>Tv<|Jd<|Jq<|Je3 R ?_
 have ee:(p1.Next.length:Int)<=9223372036854775807:=a1.len_le
 refine Ob h λcv er d8=>?_
 clear h
 refine Jo3 [2,3,4,7,8,9] (λE L w'=>∃κ',∃q:(List Int)×(List<|List Int),∃aU aV aQ aN,L=E/\Stp [9,10,11,12,14] ai cI κ' w'/\Oc E6 2 κ' w' 10 aU aV q.1/\Oc (Ep.fz<|Rp.sl<|Rp.int .i64) 37 κ' w' 11 aQ aN q.2/\Bc κ' w' 9 F 75 [.slice aU q.1.length aV,.slice aQ q.2.length aN]/\cv=cb q) ?_ ?_
 refine Jv<|Jp3 [2,3,4,7,8,9] (λk E L w'=>∃κ' c,∃g:(List Int)×(List<|List Int),∃aL aO Y ac,L=(10,vi c)::E/\Stp [9,10,11,12,14] ai cI κ' w'/\Oc E6 2 κ' w' 10 aL aO g.1/\Oc (Ep.fz<|Rp.sl<|Rp.int .i64) 37 κ' w' 11 Y ac g.2/\Bc κ' w' 9 F 75 [.slice aL g.1.length aO,.slice Y g.2.length ac]/\0<=c/\hV ((p1.Next.length:Int)-c)=k/\cntM (fb p1 n) k c g=some cv) ⟨_,_,⟨ai,0,((([]:List Int):(List Int)),(([]:List (List Int)):(List<|List Int))),none,0,none,0,R,Jj3,Ow.nil,Ow.nil,dR,(by decide),(by simp),er⟩,(KM R)⟩ ?_
 rintro k _ gb ⟨bJ,c,g,aL,aO,Y,ac,rfl,bV,cl,cm,cn,ek,fv,h⟩
 rcases k with _ | k
 have bx:=h;obtain⟨eS,h⟩:=cw (cb (eg g):(Arena×(List Pair)×Bool)⊕(((List Int)×(List (List Int)))⊕((List Int)×(List (List Int)))))
 have J:decide (c<(p1.Next.length:Int))=false:=Jo2 (by omega)
 refine Jq<|Je3 R<|Jw2 R J<|Jc1<|Jt<|Jt ?_
 cases h
 have h:=bx
 refine Jb1 ?_
 cases h
 exact Jw1 _ ⟨bJ,(g.1,g.2),aL,aO,Y,ac,R,bV.wk R,cl,cm,cn,R⟩<|KM R
 obtain⟨eS,h,bx⟩:=BI h;unfold fb at h
 have J:decide (c<(p1.Next.length:Int))=true:=Jn2 (by omega)
 refine Jq<|Je3 R<|Jv2 R J<|Js<|Jp<|Jq<|Jv<|Je [1,2] R<|Jx3 (κ:=bJ) (E:=E6) 12 R Y37 bS R λc7 dc cK bd ay dV=>Tv<|Jb 1 R<|Jq<|Je3 R<|Ob h λ_ eu h=>?_
 have ef:=ms eu
 refine Ob h λcx es d9=>?_
 clear h
 refine Jo3 [2,3,4,7,8,9,10] (λE L w'=>∃κ',∃O:(List Int),∃aC aX,L=(11,.slice aC O.length aX)::E/\Stp [12] bd cK κ' w'/\Oc E6 2 κ' w' 12 aC aX O/\cx=cb O) ?_ ?_
 refine Jv<|Jp3 [2,3,4,7,8,9,10] (λk E L w'=>∃κ' e,∃N:(List Int),∃aA ar,L=(11,.slice aA N.length ar)::(12,vi e)::E/\Stp [12] bd cK κ' w'/\Oc E6 2 κ' w' 12 aA ar N/\0<=e/\hV (n-e)=k/\cntM (fc p1 n c) k e N=some cx) ⟨_,_,⟨bd,0,(([]:List Int):(List Int)),c7,dc,R,Jj3,dV,(by decide),(by simp),es⟩,(KM R)⟩ ?_
 rintro k _ gd ⟨bK,e,N,aA,ar,rfl,bW,co,el,fw,h⟩
 rcases k with _ | k
 have bz:=h;obtain⟨eT,h⟩:=cw (cb (eg N):(Arena×(List Pair)×Bool)⊕(((List Int))⊕((List Int))))
 have K:decide (e<n)=false:=Jo2 (by omega)
 refine Jq<|Je3 R<|Jw2 R K<|Jc1<|Jt<|Jt ?_
 cases h
 have h:=bz
 refine Jb1 ?_
 cases h
 exact Jw1 _ ⟨bK,N,aA,ar,R,bW.wk R,co,R⟩<|KM R
 obtain⟨eT,h,bz⟩:=BI h;unfold fc at h
 have K:decide (e<n)=true:=Jn2 (by omega)
 refine Jq<|Je3 R<|Jv2 R K<|Js<|Jp<|Jq<|Jv<|Jh3 [2,2,2,2,2,2,2,2,1,1,2] 8 R<|Jd4 (κ:=bK) 13 [(IntKind.i64.wrap ((IntKind.i64.wrap ((p1.Next.length:Int)+(IntKind.i64.wrap<|c * n)))+e))] R Y37 bS R λfl fk ge c1 bX dY=>Tv<|Ob h λeX eH h=>Jy3 (κ:=c1) (E:=E6) 12 [] R Y37 bS R (co.stp bX) (Sl.srcP (bY _) dY.rdc) bU eH R λde bk gf c2 c5 dZ=>Tv<|Jc 1 R<|Jz<|Jp<|Jf3 R ?_
 have eB:bM .i64 (e+1)=e+1:=wr1 el (Jm2 K) ef
 rw[eB]
 have K:=Jm2 K
 cases h
 exact Jz1 λa ha=>⟨k,_,Ja3 _,⟨c2,e+1,eX,de,bk,R,(T3 bW bX c5).wk R,dZ,by omega,by omega,bz⟩,(ha.mm R)⟩
 rintro _ gc ⟨c0,O,aC,aX,rfl,az,dW,rfl⟩
 have h:=yI d9
 refine Jp<|Je [2,1,1,1,2,1] R<|Jd3 R U75 R Z37 ?_
 have cp:=cn.stp (ay.tr az)
 refine Jb3 R I37 (cp.ld 0 R R)<|Jd4 (κ:=c0) 13 [1] R Y37 bS R λfj e9 gh c3 X d0=>Tv<|Ob h λa6 eI h=>Jy3 (κ:=c3) (E:=E6) 10 [] R Y37 bS R (cl.stp<|T3 ay az X) (Sl.srcP (bY _) d0.rdc) bU eI R λaZ aG gi bL aj dn=>Tv<|Jd3 R U75 R Z37<|Ju3 (κ:=bL) 9 (off:=0) (vc:=[.slice aZ a6.length aG]) (cs':=[.slice aZ a6.length aG,.slice Y g.2.length ac]) R Z37 R (cp.stp<|X.tr aj) R λeU ak b4=>Tv<|Jd<|Ja [2,1,2,1,1,2,1] R<|Jd3 R U75 R Z31<|Jb3 R I31 (b4.ld 1 R R)<|Jn 1 R ?_
 obtain⟨cN,al,eY⟩:=lr bL eU 12
 refine Jw3 (κ:=cN) (E:=(Ep.fz<|Rp.sl<|Rp.int .i64)) 14 [] (parts:=[(0,.tmp 57)]) (cells:=[.slice aC O.length aX]) (xs:=([O]:List (List Int))) R Y31 bZ R (Je4 ⟨_,_,R,(Sl.z1<|Sl.st eY (dW.stp<|T3 X aj ak).rdc)⟩) λfa fi fK cO am dp=>Tv<|Ob h λbB eJ h=>Jy3 (κ:=cO) (E:=(Ep.fz<|Rp.sl<|Rp.int .i64)) 11 [14] R Y31 bZ R (cm.stp<|T7 ay az X aj ak al am) dp.src (dG R) eJ R λbl bq fL bD bf dq=>Tv<|Jd3 R U75 R Z31<|Ju3 (κ:=bD) 9 (off:=1) (vc:=[.slice bl bB.length bq]) (cs':=[.slice aZ a6.length aG,.slice bl bB.length bq]) R Z31 R (b4.stp<|T3 al am bf) R λfM bg dr=>Tv<|Jo<|Jz<|Jp<|Jf3 R ?_
 have eA:bM .i64 (c+1)=c+1:=wr1 ek (Jm2 J) ee
 rw[eA]
 have J:=Jm2 J
 cases h
 exact Jz1 λa ha=>⟨k,_,Ja3 _,⟨bD,c+1,(a6,bB),aZ,aG,bl,bq,R,(T10 bV ay az X aj ak al am bf bg).wk R,(dn.stp<|T5 ak al am bf bg),(dq.stp bg),dr,by omega,by omega,bx⟩,(ha.mm R)⟩
 rintro _ cJ ⟨bc,q,aU,aV,aQ,aN,rfl,z,dS,dT,dU,rfl⟩
 have h:=yI d8
 refine Jp<|Jq<|Je3 R ?_
 have ea:(p1.Next.length:Int)<=9223372036854775807:=a1.len_le
 refine Ob h λcy eo d5=>?_
 clear h
 refine Jo3 [3,4,9] (λE L w'=>∃κ',∃P:(List Int)×(List<|List Int),∃aW aT aR aB,L=E/\Stp [9,10,11,16] bc cJ κ' w'/\Oc E6 2 κ' w' 10 aW aT P.1/\Oc (Ep.fz<|Rp.sl<|Rp.int .i64) 37 κ' w' 11 aR aB P.2/\Bc κ' w' 9 F 75 [.slice aW P.1.length aT,.slice aR P.2.length aB]/\cy=cb P) ?_ ?_
 refine Jv<|Jp3 [2,3,4,7,8,9] (λk E L w'=>∃κ' f,∃d:(List Int)×(List<|List Int),∃ab Z ad af,L=(13,vi f)::E/\Stp [9,10,11,16] bc cJ κ' w'/\Oc E6 2 κ' w' 10 ab Z d.1/\Oc (Ep.fz<|Rp.sl<|Rp.int .i64) 37 κ' w' 11 ad af d.2/\Bc κ' w' 9 F 75 [.slice ab d.1.length Z,.slice ad d.2.length af]/\0<=f/\hV ((p1.Next.length:Int)-f)=k/\cntM (fd p0 p1 n) k f d=some cy) ⟨_,_,⟨bc,0,(q.1,q.2),aU,aV,aQ,aN,R,Jj3,dS,dT,dU,(by decide),(by simp),eo⟩,(KM R)⟩ ?_
 rintro k _ cF ⟨ah,f,d,ab,Z,ad,af,rfl,an,b7,b8,ca,eh,fs,h⟩
 rcases k with _ | k
 have bu:=h;obtain⟨eP,h⟩:=cw (cb (eg d):(Arena×(List Pair)×Bool)⊕(((List Int)×(List (List Int)))⊕((List Int)×(List (List Int)))))
 have G:decide (f<(p1.Next.length:Int))=false:=Jo2 (by omega)
 refine Jq<|Je3 R<|Jw2 R G<|Jc1<|Jt<|Jt ?_
 cases h
 have h:=bu
 refine Jb1 ?_
 cases h
 exact Jw1 _ ⟨ah,(d.1,d.2),ab,Z,ad,af,R,an.wk R,b7,b8,ca,R⟩<|KM R
 obtain⟨eP,h,bu⟩:=BI h;unfold fd at h
 have G:decide (f<(p1.Next.length:Int))=true:=Jn2 (by omega)
 refine Jq<|Je3 R<|Jv2 R G<|Js<|Jp<|Jq<|Jv<|Je3 R<|Ob h λ_ et h=>?_
 have ec:=ms et
 refine Ob h λct ep d6=>?_
 clear h
 refine Jo3 [2,3,4,7,8,9,13] (λE L w'=>∃κ',∃p:(List Int)×(List<|List Int),∃aH aI aD aP,L=E/\Stp [9,10,11,16] ah cF κ' w'/\Oc E6 2 κ' w' 10 aH aI p.1/\Oc (Ep.fz<|Rp.sl<|Rp.int .i64) 37 κ' w' 11 aD aP p.2/\Bc κ' w' 9 F 75 [.slice aH p.1.length aI,.slice aD p.2.length aP]/\ct=cb p) ?_ ?_
 refine Jv<|Jp3 [2,3,4,7,8,9,13] (λk E L w'=>∃κ' j,∃i:(List Int)×(List<|List Int),∃aY aM aa ae,L=(14,vi j)::E/\Stp [9,10,11,16] ah cF κ' w'/\Oc E6 2 κ' w' 10 aY aM i.1/\Oc (Ep.fz<|Rp.sl<|Rp.int .i64) 37 κ' w' 11 aa ae i.2/\Bc κ' w' 9 F 75 [.slice aY i.1.length aM,.slice aa i.2.length ae]/\0<=j/\hV (n-j)=k/\cntM (ff p0 p1 f) k j i=some ct) ⟨_,_,⟨ah,0,(d.1,d.2),ab,Z,ad,af,R,Jj3,b7,b8,ca,(by decide),(by simp),ep⟩,(KM R)⟩ ?_
 rintro k _ fP ⟨bE,j,i,aY,aM,aa,ae,rfl,ao,ce,cf,bs,ei,ft,h⟩
 rcases k with _ | k
 have bv:=h;obtain⟨eQ,h⟩:=cw (cb (eg i):(Arena×(List Pair)×Bool)⊕(((List Int)×(List (List Int)))⊕((List Int)×(List (List Int)))))
 have H:decide (j<n)=false:=Jo2 (by omega)
 refine Jq<|Je3 R<|Jw2 R H<|Jc1<|Jt<|Jt ?_
 cases h
 have h:=bv
 refine Jb1 ?_
 cases h
 exact Jw1 _ ⟨bE,(i.1,i.2),aY,aM,aa,ae,R,ao.wk R,ce,cf,bs,R⟩<|KM R
 obtain⟨eQ,h,bv⟩:=BI h;unfold ff at h
 have H:decide (j<n)=true:=Jn2 (by omega)
 refine Jq<|Je3 R<|Jv2 R H<|Js<|Jp<|Jq<|Jv<|Je [2,1,1,1,2,1] R<|Jd3 R U75 R Z37<|Jb3 R I37 (bs.ld 0 R R)<|Jd4 (κ:=bE) 12 [0] R Y37 bS R λfe fm fQ cR B dy=>Tv<|Ob h λa7 eK h=>Jy3 (κ:=cR) (E:=E6) 10 [] R Y37 bS R (ce.stp B) (Sl.srcP (bY _) dy.rdc) bU eK R λaK aS fR a8 S dz=>Tv<|Jd3 R U75 R Z37<|Ju3 (κ:=a8) 9 (off:=0) (vc:=[.slice aK a7.length aS]) (cs':=[.slice aK a7.length aS,.slice aa i.2.length ae]) R Z37 R (bs.stp<|B.tr S) R λfS T dA=>Tv<|Jd<|Js1 (κ:=a8) [2,3,9] (some 10) [(0,2),(4,2),(5,2),(1,0),(2,0),(3,0),(6,1),(7,1),(8,1),(9,2)] [(10,1)] (by kernel_rfl) (by kernel_rfl) λfU C=>Jd3 R U75 R Z31<|Jn 2 R ?_
 have cg:=dA.stp C
 have bN:=(T11 o u x y z an ao B S T C)
 have bO:=(T10 u x y z an ao B S T C)
 refine Jg R (Jc2 I31 R R<|hvC (cg.ld 1 R R) R)<|Jg R (Jc4 (haC (ck.stp bO).cells R) I28 Z28 R)<|Jg R (Jc4 (haC (a2.stp bO).cells R) I71 Z71 R)<|Ob h λcL eL h=>Jr3 R C130 (qR (κ:=λb=>mp [] 1<|a8 b) (p0:=p0) (p1:=p1) (Jl2 (a1.stp bN) (mp [] 1) R R) (Jl2 (ag.stp bN) (mp [] 1) R R) eL) ?_
 rintro _ fV ⟨fy,df,c8,rfl,di,dB⟩
 obtain⟨cS,s,fD,eZ⟩:=Jj di 13 R
 refine⟨(s.cl R),Jw3 (κ:=cS) (E:=(Ep.fz<|Rp.sl<|Rp.int .i64)) 16 [] (parts:=[(0,.tmp 82)]) (cells:=[.slice df cL.length c8]) (xs:=([cL]:List (List Int))) R Y31 bZ R (Je4 ⟨_,_,R,(Sl.z1<|dB.mx eZ)⟩) λfn e7 fW cT D dC=>⟨((s.tr D).cl R),Ob h λbC eM h=>Jy3 (κ:=cT) (E:=(Ep.fz<|Rp.sl<|Rp.int .i64)) 11 [16] R Y31 bZ R (cf.stp<|T6 B S T C s D) dC.src (dG R) eM R λbp br fX bF ap dD=>⟨((T3 s D ap).cl R),Jd3 R U75 R Z31<|Jt1<|Ju3 (κ:=bF) 9 (off:=1) (vc:=[.slice bp bC.length br]) (cs':=[.slice aK a7.length aS,.slice bp bC.length br]) R Z31 R (cg.stp<|T3 s D ap) R λfY bh dE=>Tv<|Jo<|Jz<|Jp<|Jf3 R ?_⟩⟩⟩
 have ey:bM .i64 (j+1)=j+1:=wr1 ei (Jm2 H) ec
 rw[ey]
 have H:=Jm2 H
 cases h
 exact Jz1 λa ha=>⟨k,_,Ja3 _,⟨bF,j+1,(a7,bC),aK,aS,bp,br,R,(T9 ao B S T C s D ap bh).wk R,(dz.stp<|T6 T C s D ap bh),(dD.stp bh),dE,by omega,by omega,bv⟩,(ha.mm R)⟩
 rintro _ fO ⟨cQ,p,aH,aI,aD,aP,rfl,c4,dv,dw,dx,rfl⟩
 have h:=yI d6
 refine Jz<|Jp<|Jf3 R ?_
 have ex:bM .i64 (f+1)=f+1:=wr1 eh (Jm2 G) ea
 rw[ex]
 have G:=Jm2 G
 cases h
 exact Jz1 λa ha=>⟨k,_,Ja3 _,⟨cQ,f+1,(p.1,p.2),aH,aI,aD,aP,R,(an.tr c4).wk R,dv,dw,dx,by omega,by omega,bu⟩,(ha.mm R)⟩
 rintro _ fN ⟨cP,P,aW,aT,aR,aB,rfl,Q,ds,dt,du,rfl⟩
 have h:=yI d5
 refine Jp<|Je [1,2] R<|Jx3 (κ:=cP) (E:=Pair.ep127) 12 R Y69 dg R λc9 c6 cG a9 t dF=>Tv<|Jb 1 R<|Jq<|Je3 R ?_
 have ed:(p1.Pairs.length:Int)<=9223372036854775807:=ag.len_le
 refine Ob h λcu eq d7=>?_
 clear h
 refine Jo3 [4,9] (λE L w'=>∃κ',∃a3:(List Pair),∃a0 aE,L=(15,.slice a0 a3.length aE)::E/\Stp [12,15,18,19] a9 cG κ' w'/\Oc Pair.ep127 127 κ' w' 12 a0 aE a3/\cu=cb a3) ?_ ?_
 refine Jv<|Jp3 [3,4,9] (λk E L w'=>∃κ' m,∃M:(List Pair),∃aF aJ,L=(15,.slice aF M.length aJ)::(16,vi m)::E/\Stp [12,15,18,19] a9 cG κ' w'/\Oc Pair.ep127 127 κ' w' 12 aF aJ M/\0<=m/\hV ((p1.Pairs.length:Int)-m)=k/\cntM (fg p1) k m M=some cu) ⟨_,_,⟨a9,0,(([]:List Pair):(List Pair)),c9,c6,R,Jj3,dF,(by decide),(by simp),eq⟩,(KM R)⟩ ?_
 rintro k _ f0 ⟨ba,m,M,aF,aJ,rfl,U,ch,ej,fu,h⟩
 rcases k with _ | k
 have bw:=h;obtain⟨eR,h⟩:=cw (cb (eg M):(Arena×(List Pair)×Bool)⊕(((List Pair))⊕((List Pair))))
 have I:decide (m<(p1.Pairs.length:Int))=false:=Jo2 (by omega)
 refine Jq<|Jg3 [2,2,1,2,2] 1 R<|Jd3 R U71 R Z69<|Jb3 R I69 ((a2.stp<|T7 u x y z Q t U).ld 1 R R)<|Jn3 R U69 R R<|Jb 1 R<|Jw2 R I<|Jc1<|Jt<|Jt ?_
 cases h
 have h:=bw
 refine Jb1 ?_
 cases h
 exact Jw1 _ ⟨ba,M,aF,aJ,R,U.wk R,ch,R⟩<|KM R
 obtain⟨eR,h,bw⟩:=BI h;unfold fg at h
 have I:decide (m<(p1.Pairs.length:Int))=true:=Jn2 (by omega)
 refine Jq<|Jg3 [2,2,1,2,2] 1 R<|Jd3 R U71 R Z69 ?_
 have ci:=a2.stp (T7 u x y z Q t U)
 refine Jb3 R I69 (ci.ld 1 R R)<|Jn3 R U69 R R<|Jb 1 R<|Jv2 R I<|Js<|Jp<|Jq<|Jv<|Js1 (κ:=ba) [0,3] none [(0,2),(1,2),(3,2),(8,2),(10,2),(2,0),(4,2),(5,2),(6,0),(9,0),(11,2),(12,2),(13,0),(7,1),(14,1),(15,2),(16,1),(17,1),(18,2)] [] (by kernel_rfl) (by kernel_rfl) λf1 au=>Jn 1 R<|Jd3 R U71 R Z69<|Jn 1 R<|Jd3 R U71 R Z69<|Jn 1 R ?_
 have cj:=ci.stp au
 refine Jg R (Jc2 I69 R R<|hvC (cj.ld 1 R R) R)<|Ob h λgk cs h=>Jc3 R ag cs U69 Z127<|Jd3 R U127 R Z37 ?_
 have bt:=ag.stp (T9 o u x y z Q t U au)
 obtain⟨fo,ev,em⟩:=(bt).gSt cs
 obtain⟨e0,fG,e1,fH,rfl,d1,fq⟩:=Pair.un ev
 refine Jg R (Jc2 I37 R R<|hvC (λw' bA=>em w' bA 0 _ R) R)<|Jg R (Jc2 I69 R R<|hvC (cj.ld 1 R R) R)<|Ob h λgj cr h=>Jc3 R bt cr U69 Z127<|Jd3 R U127 R Z37 ?_
 obtain⟨fp,ew,en⟩:=(bt).gSt cr
 obtain⟨e2,fI,e3,fJ,rfl,fr,d2⟩:=Pair.un ew
 refine Jg R (Jc2 I37 R R<|hvC (λw' bA=>en w' bA 1 _ R) R)<|Ob h λa4 eC h=>Jr3 R C131 (eb (κ:=Mk ba) (Ji3 d1) eC) ?_
 rintro _ f2 ⟨fA,bo,bm,rfl,dk,dI⟩
 obtain⟨cV,V,eN⟩:=Ji dk 13 R
 refine⟨(V.cl R),Ob h λa5 eD h=>Jr3 R C131 (eb (κ:=Mk cV) (Ji3<|d2.stp V) eD) ?_⟩
 rintro _ cH ⟨fB,bn,bj,rfl,dl,dJ⟩
 obtain⟨bb,av,eO⟩:=Ji dl 16 R
 have be:=(V.tr av)
 refine⟨(be.cl R),Jf R (Ji4 [.slice bo a4.length bm,.slice bn a5.length bj] R)<|Jw3 (κ:=bb) (E:=Pair.ep127) 19 [15,18] (parts:=[(0,.tmp 109)]) (cells:=[.slice bo a4.length bm,.slice bn a5.length bj]) (xs:=([(⟨a4,a5⟩:Pair)]:List Pair)) R Y69 dg R (Je4 ⟨[.slice bo a4.length bm],[.slice bn a5.length bj],Zl bb cH [15],Zl bb cH [18],R,Zl.sp (l1:=[15]) (l2:=[18]) R,Zl.sr (l1:=[15]) (l2:=[18]),⟨_,_,R,((dI.mx (cc _) eN R (R:13+2=15)).stp av)⟩,⟨_,_,R,(dJ.mx (cc _) eO R (R:16+2=18))⟩⟩) λfh e8 f3 cW aw dK=>⟨((be.tr aw).cl R),Ob h λeV eE h=>Jy3 (κ:=cW) (E:=Pair.ep127) 12 [19] R Y69 dg R (ch.stp<|T4 au V av aw) dK.src (dG R) eE R λda dh f5 cX bQ dL=>⟨((T3 be aw bQ).cl R),Jn 1 R<|Jt1<|Jo<|Jz<|Jp<|Jf3 R ?_⟩⟩⟩
 have ez:bM .i64 (m+1)=m+1:=wr1 ej (Jm2 I) ed
 rw[ez]
 have I:=Jm2 I
 cases h
 exact Jz1 λa ha=>⟨k,_,Ja3 _,⟨cX,m+1,eV,da,dh,R,(T6 U au V av aw bQ).wk R,dL,by omega,by omega,bw⟩,(ha.mm R)⟩
 rintro _ fZ ⟨bH,a3,a0,aE,rfl,aq,dH,rfl⟩
 have h:=yI d7
 refine Jp<|Je [1,2,1,2,2] R<|Jb4 tv R (Jc4 (haE (du.stp<|t.tr aq).cells) I75 Z75 R)<|Jn 1 R<|Jh4 (κ:=bH) 4 R Z75 R (b5.stp<|T8 o u x y z Q t aq) R λf6 bi dM=>Tv<|Jb 2 R<|Ju<|Ja2 (l:=[.cell 4 75,.tmp 5,.tmp 6]) V65 (cd R dM I75 Z75 R<|Jp2 R<|Jp2 R R) R ?_
 cases h
 have bP:=(T3 t aq bi)
 exact⟨(λb=>ren [(10,2),(11,3),(12,4)]<|bH b),aW,aT,aR,aB,a0,aE,R,((cq.stp<|T12 ax W A o u x y z Q t aq bi).map (ren [(10,2),(11,3),(12,4)]) R R),((ds.stp bP).map (ren [(10,2),(11,3),(12,4)]) R R),((dt.stp bP).map (ren [(10,2),(11,3),(12,4)]) R R),((dH.stp bi).map (ren [(10,2),(11,3),(12,4)]) R R)⟩
 refine JT λh=>Jx R<|Je [2,1,1,2,2] R<|Jf R (Ji4 [.slice none 0 0,.slice none 0 0] R)<|Jx3 (κ:=bG) (E:=Pair.ep127) 7 R Y69 dg R λdd db f4 bI bR dN=>Tv<|Jh4 (κ:=bI) 4 R Z75 R (b5.stp<|o.tr bR) R λf7 bT dO=>Tv<|Jb 2 R<|Ju<|Jw<|Ja2 (l:=[.cell 4 75,.tmp 5,.tmp 6]) V65 (cd R dO I75 Z75 R<|Jp2 R<|Jp2 R R) R ?_
 cases h
 exact⟨(λb=>ren [(7,4)]<|bI b),none,0,none,0,dd,db,R,((cq.stp<|T6 ax W A o bR bT).map (ren [(7,4)]) R R),Ow.nil,Ow.nil,((dN.stp bT).map (ren [(7,4)]) R R)⟩
theorem qN {q t o u p s}{p0:Parity}{a1 A}{p1:(List Int)}(U:Rd (Rp.int .i64) κ w 0 q t p0.Arena.Owner) (V:Rd (Rp.sl (Rp.int .i64)) κ w 0 o u p0.Arena.Next) (W:Rd (Rp.int .i64) κ w 0 p s p0.Prio) (X:Rd (Rp.int .i64) κ w 0 a1 A p1){r:Bool}(h:kR p0 p1=some r):Ret Tryz.prog 199 [.agg #[.slice q p0.Arena.Owner.length t,.slice o p0.Arena.Next.length u,.slice p p0.Prio.length s],.slice a1 p1.length A] w (Pvb κ w r):=by
 unfold kR at h
 refine Jk3 κ F199 R N199 R λY=>Je [1,2] R<|Js3 (κ:=κ) 2 R λav w1 D c v=>Tv<|Jb 1 R<|Je [1,2,1,2,2,2,1,1,2] R<|Jb4 tv R (Jc4 (haE v.cells) I79 Z79 R)<|Jn 1 R<|Ob h λB aa h=>?_
 have x:=U.stp c
 have y:=V.stp c
 have z:=W.stp c
 refine Jr3 R C251 (tN (κ:=Mk D) (p0:=p0) (Ji3 x) (Ji3 y) (Ji3 z) (Ji3<|X.stp c) aa) ?_
 rintro _ aJ ⟨ay,ak,au,aj,aq,am,an,rfl,I,M,N,O⟩
 obtain⟨C,k,n⟩:=Ji I 3 R
 refine Tv<|Jn 3 R<|Jt3 (κ:=C) 8 R X79 R λaw aD e f P=>Tv<|Jh4 (κ:=e) 8 R Z79 R P R λaE g Q=>Tv<|Jb 1 R<|Jq<|Js1 (κ:=e) [2,8] none [(0,2),(1,2),(2,0),(4,0),(3,1),(5,1),(6,1),(7,2),(8,2)] [] (by kernel_rfl) (by kernel_rfl) λah b=>Jn 2 R<|Ob h λag h Z=>Jf4 [4] 20 ag e ah [(2,0),(4,0),(3,1),(5,1),(6,1),(7,2)] [(8,2)] (Cl.refl _ _ _) ?_ ?_
 revert h
 cases ax:B.2
 refine JF λh=>Ja4 R<|Ja4 R<|Jz3 R<|Jz3 R<|Jz3 R<|Jn 1 R ?_
 cases h
 exact Jv1 _ (Cl.refl _ _ _) ⟨R,_,Jj3⟩<|KM R
 have i:=(T3 f g b)
 refine JT λh=>Jg R (Jc4 (haC (Q.stp b).cells R) I79 Z79 R)<|Jg R (Jc4 (haC (v.stp<|T4 k f g b).cells R) I79 Z79 R)<|Ob h λaK ab h=>Jr3 R C200 (od (κ:=Mk e) (p0:=B.1) (Ji3 ((M.mx (cc _) n R (R:3+2=5)).stp i).rdc) (Ji3 ((N.mx (df (cc _) _) n R (R:3+3=6)).stp i).rdc) (Ji3 ((O.mx (cc _) n R (R:3+4=7)).stp i).rdc) ab) ?_
 rintro _ aF ⟨az,ap,ao,rfl,J,S⟩
 obtain⟨E,a,ae⟩:=Ji J 9 R
 have j:=(T5 k f g b a)
 refine⟨(a.cl R),Ob h λaL ac h=>Jr3 R C200 (od (κ:=Mk E) (p0:=p0) (Ji3<|x.stp j) (Ji3<|y.stp j) (Ji3<|z.stp j) ac) ?_⟩
 rintro _ aG ⟨aA,al,ar,rfl,K,T⟩
 obtain⟨F,d,af⟩:=Ji K 12 R
 refine⟨((a.tr d).cl R),Ob h λaM ad h=>Jr3 R C144 (tT (κ:=Mk F) (Ji3 ((S.mx (cc _) ae R (R:9+2=11)).stp d).rdc) (Ji3 (T.mx (cc _) af R (R:12+2=14)).rdc) ad) ?_⟩
 rintro _ aH ⟨aB,rfl,L⟩
 obtain⟨ai,m,aC⟩:=Ji L 15 R
 refine⟨((T3 a d m).cl R),Jn 1 R ?_⟩
 cases h
 exact Jv1 _ ((T3 a d m).cl R) ⟨R,_,(T3 a d m).wk R⟩<|KM R
 rintro _ aI _ ⟨rfl,G,H⟩
 have h:=Z
 refine Jn 1 R<|Jt1<|Jd<|Ju<|Ja2 (l:=[.tmp 4]) V199 (Jp2 R R) R ?_
 cases h
 exact⟨G,R,(Y.stp<|T6 c k f g b H)⟩
theorem qP {p0:Sig}{m p n o}{p1:Det}{p2:Int}{p3:Int}(J:Rd (Rp.sl (Rp.int .i64)) κ w 0 m p p1.Next) (K:Rd Pair.rp κ w 0 n o p1.Pairs){r:Int}(h:kU p0 p1 p2 p3=some r):Ret Tryz.prog 142 [.agg #[vi p0.In,vi p0.Out],.agg #[.slice m p1.Next.length p,.slice n p1.Pairs.length o],vi p2,vi p3] w (Pvi κ w r):=by
 unfold kU at h
 refine Jk3 κ F142 R N142 R λi=>Je [1,1,2] R<|Js3 (κ:=κ) 2 R λY w1 u c I=>Tv<|Js3 (κ:=u) 3 R λZ au y a q=>Tv<|Jb 1 R<|Je [2,1,2,2] R<|Jd3 R U71 R Z31<|Jb3 R I31 (q.ld 0 R R)<|Jn3 R U31 R R<|Jb 1 R<|Jq<|Je [1,1,1,2,2,2,2,2,1,2,2,2,2,1,1,2,1,2,2] R ?_
 have g:=I.stp a
 refine Jb4 tv R (Jc4 (haE g.cells) I28 Z28 R)<|Jb4 tv R (Jc4 (haE q.cells) I71 Z71 R)<|Ob h λV N h=>Jr3 R C123 (kP (κ:=Mk y) (p0:=p0) (p1:=p1) (Ji3<|J.stp<|c.tr a) (Ji3<|K.stp<|c.tr a) N) ?_
 rintro _ T ⟨ae,rfl,D⟩
 obtain⟨j,b,aj⟩:=Ji D 4 R
 refine Tv<|Jn 2 R<|Ob h λs h L=>Jf4 [2,3,4,9] 23 s j T [(5,2),(6,2),(7,2),(8,1),(9,2),(10,2)] [(11,2),(12,2),(13,1),(14,1),(15,2),(16,1),(17,2),(18,2)] tv ?_ ?_
 revert h
 cases aa:(!V)
 refine JF λh=>Jn 3 R<|Ob h λaw O h=>Jr3 R C59 (de (κ:=Mk j) O) ?_
 rintro _ ao ⟨af,rfl,E⟩
 obtain⟨W,z,ak⟩:=Ji E 6 R
 refine Tv<|Jn 2 R ?_
 cases h
 exact Jv1 _ tv ⟨R,_,z.wk R⟩<|KM R
 refine JT λh=>Jn 3 R<|Jz3 R<|Jn 2 R ?_
 cases h
 exact Jg4 tv R
 rintro _ U _ ⟨rfl,k,d⟩
 have h:=L
 refine Jn 1 R<|Ob h λt h M=>Jf4 [2,3,4,9] 31 t k U [(12,2),(13,1),(14,1),(15,2),(16,1),(17,2),(18,2)] [] tv ?_ ?_
 revert h
 cases ab:s
 refine JF λh=>Jn 1 R<|Jb4 tv R (Jc4 (haE (g.stp<|b.tr d).cells) I28 Z28 R)<|Ob h λax P h=>Jr3 R C129 (jw (κ:=Mk k) (p0:=p0) P) ?_
 rintro _ ap ⟨ag,rfl,F⟩
 obtain⟨v,A,al⟩:=Ji F 6 R
 refine Tv<|Jn 1 R<|Ob h λay Q h=>Jr3 R C59 (de (κ:=Mk v) Q) ?_
 rintro _ aq ⟨ah,rfl,G⟩
 obtain⟨X,B,am⟩:=Ji G 8 R
 refine Tv<|Jn 2 R ?_
 cases h
 exact Jv1 _ tv ⟨R,_,(A.tr B).wk R⟩<|KM R
 refine JT λh=>Jn 1 R<|Jz3 R<|Jz3 R<|Jn 1 R<|Jz3 R<|Jn 2 R ?_
 cases h
 exact Jg4 tv R
 rintro _ ar _ ⟨rfl,f,e⟩
 have h:=M
 refine Jd ?_
 revert h
 cases ac:t
 refine JF λh=>Jy R<|Js<|Jp<|Jq<|Je3 R ?_
 revert h
 cases ad:(p3==(-1))
 refine JF λh=>Jy R<|Js<|Jp<|Jg3 [2,2,1,1,2,2,2,2,2] 2 R<|Jb4 tv R (Jc4 (haE (g.stp<|T3 b d e).cells) I28 Z28 R)<|Ob h λaz S h=>Jr3 R C129 (jw (κ:=Mk f) (p0:=p0) S) ?_
 rintro _ av ⟨ai,rfl,H⟩
 obtain⟨x,C,an⟩:=Ji H 6 R
 refine Tv<|Jb 5 R<|Ju<|Ja2 (l:=[.tmp 8]) V142 (Jp2 R R) R ?_
 cases h
 exact⟨x,R,(i.stp<|T6 c a b d e C)⟩
 refine JT λh=>Jx R<|Je3 R<|Ju<|Jw<|Ja2 (l:=[.tmp 8]) V142 (Jp2 R R) R ?_
 cases h
 exact⟨f,R,(i.stp<|T5 c a b d e)⟩
 refine JT λh=>Jx R<|Je3 R<|Ju<|Jw<|Ja2 (l:=[.tmp 8]) V142 (Jp2 R R) R ?_
 cases h
 exact⟨f,R,(i.stp<|T5 c a b d e)⟩
theorem qt {p0:Sig}{N P O T}{p1:Det}{p2:Int}{p3:Int}{z:Int}(aK:Rd (Rp.sl (Rp.int .i64)) κ w 0 N P p1.Next) (aL:Rd Pair.rp κ w 0 O T p1.Pairs){r:(List Int)}(h:j8 p0 p1 p2 p3 z=some r):Ret Tryz.prog 143 [.agg #[vi p0.In,vi p0.Out],.agg #[.slice N p1.Next.length P,.slice O p1.Pairs.length T],vi p2,vi p3,vi z] w (Pvs E6 2 κ w r):=by
 unfold j8 at h
 refine Jk3 κ F143 R N143 R λX=>Je [1,1,2] R<|Js3 (κ:=κ) 2 R λba w1 ai s aH=>Tv<|Js3 (κ:=ai) 3 R λbb bB ak n aJ=>Tv<|Jb 1 R<|Je [1,2] R<|Jx3 (κ:=ak) (E:=E6) 4 R Y37 bS R λS Q bG af i U=>Tv<|Jb 1 R<|Jq<|Je [1,1,1,2,2,2,2,1,2,2,1,2,2,2,2,1,1,2,1,2,2] R ?_
 have D:=aH.stp (n.tr i)
 refine Jb4 tv R (Jc4 (haE D.cells) I28 Z28 R) ?_
 have F:=aJ.stp i
 refine Jb4 tv R (Jc4 (haE F.cells) I71 Z71 R)<|Ob h λa2 aS h=>?_
 have G:=aK.stp (T3 s n i)
 refine Jr3 R C123 (kP (κ:=Mk af) (p0:=p0) (p1:=p1) (Ji3 G) (Ji3<|aL.stp<|T3 s n i) aS) ?_
 rintro _ aZ ⟨bh,rfl,ay⟩
 obtain⟨J,d,bn⟩:=Ji ay 5 R
 refine Tv<|Jn 2 R<|Ob h λab h aM=>Jf4 [2,3,4,5,6,11] 26 ab J aZ [(5,2),(6,2),(7,1),(8,2),(9,2),(10,1),(11,2),(12,2)] [(13,2),(14,2),(15,1),(16,1),(17,2),(18,1),(19,2),(20,2)] tv ?_ ?_
 revert h
 cases bd:(!a2)
 refine JF λh=>Jn 1 R<|Jd3 R U71 R Z31<|Jb3 R I31 ((F.stp d).ld 0 R R)<|Jn3 R U31 R R<|Jn 1 R<|Ob h λbI aT h=>Jr3 R C59 (de (κ:=Mk J) aT) ?_
 rintro _ bx ⟨bi,rfl,az⟩
 obtain⟨a5,ap,bo⟩:=Ji az 7 R
 refine Tv<|Jn 2 R ?_
 cases h
 exact Jv1 _ tv ⟨R,_,ap.wk R⟩<|KM R
 refine JT λh=>Jn 2 R<|Jz3 R<|Jn 2 R<|Jz3 R<|Jn 2 R ?_
 cases h
 exact Jg4 tv R
 rintro _ a0 _ ⟨rfl,K,e⟩
 have h:=aM
 refine Jn 1 R<|Ob h λac h aN=>Jf4 [2,3,4,5,6,11] 34 ac K a0 [(14,2),(15,1),(16,1),(17,2),(18,1),(19,2),(20,2)] [] tv ?_ ?_
 revert h
 cases be:ab
 refine JF λh=>Jn 1 R<|Jb4 tv R (Jc4 (haE (D.stp<|d.tr e).cells) I28 Z28 R)<|Ob h λbJ aU h=>Jr3 R C129 (jw (κ:=Mk K) (p0:=p0) aU) ?_
 rintro _ bz ⟨bj,rfl,aA⟩
 obtain⟨aj,aq,bp⟩:=Ji aA 7 R
 refine Tv<|Jn 1 R<|Ob h λbK aV h=>Jr3 R C59 (de (κ:=Mk aj) aV) ?_
 rintro _ bA ⟨bk,rfl,aB⟩
 obtain⟨a6,ar,bq⟩:=Ji aB 9 R
 refine Tv<|Jn 2 R ?_
 cases h
 exact Jv1 _ tv ⟨R,_,(aq.tr ar).wk R⟩<|KM R
 refine JT λh=>Jn 1 R<|Jz3 R<|Jz3 R<|Jn 1 R<|Jz3 R<|Jn 2 R ?_
 cases h
 exact Jg4 tv R
 rintro _ ae _ ⟨rfl,q,g⟩
 have h:=aN
 refine Jd ?_
 revert h
 cases bf:ac
 refine JF λh=>Jy R<|Js<|Jp<|Jq<|Je3 R<|Ob h λad aR aO=>?_
 clear h
 refine Jx1 (λL w'=>∃κ',∃A:(List Int)×Int,∃v x,L=[(11,.slice v A.1.length x)]/\Stp [4] q ae κ' w'/\Oc E6 2 κ' w' 4 v x A.1/\ad=cb A) ?_ ?_
 refine Jv<|Jp3 [2,3,4,5,6] (λk E L w'=>∃κ',∃c:(List Int)×Int,∃p o,L=(11,.slice p c.1.length o)::(12,vi c.2)::E/\Stp [4] q ae κ' w'/\Oc E6 2 κ' w' 4 p o c.1/\cu (gH p0 p1 p2 p3 z) k c=some ad) ⟨_,_,⟨q,((([]:List Int):(List Int)),(0:Int)),S,Q,R,Jj3,(U.stp<|T3 d e g),aR⟩,(KM R)⟩ ?_
 rintro k _ bD ⟨am,c,p,o,rfl,m,H,h⟩
 rcases k with _ | k
 cases h
 obtain⟨bt,h,Y⟩:=BI h;unfold gH at h
 refine Jq<|Jg3 [2,2,1,1,2] 1 R<|Jd3 R U28 R Z2 ?_
 have V:=D.stp (T4 d e g m)
 refine Jb3 R I2 (V.ld 1 R R)<|Ob h λa3 aW h=>Jr3 R C62 (dI (κ:=Mk am) aW) ?_
 rintro _ bE ⟨bl,rfl,aC⟩
 obtain⟨B,f,br⟩:=Ji aC 7 R
 refine Tv<|Jb 1 R ?_
 revert h
 cases bg:decide (c.2<a3)
 refine JF λh=>Jy R<|Jc1<|Jt<|Jt ?_
 cases h
 have h:=Y
 refine Jb1 ?_
 cases h
 exact Jw1 _ ⟨B,(c.1,c.2),p,o,R,(m.tr f).wk R,(H.stp f),R⟩<|KM R
 refine JT λh=>Jx R<|Js<|Jp<|Jq<|Jv<|Jq<|Js1 (κ:=B) [0,2,3] none [(0,2),(2,2),(6,2),(7,2),(11,2),(1,0),(3,2),(4,0),(5,0),(8,1),(9,2),(10,0),(12,2)] [] (by kernel_rfl) (by kernel_rfl) λbF j=>Jd3 R U71 R Z31<|Jn 4 R<|Jg R (Jc2 I31 R R<|hvC ((F.stp<|T6 d e g m f j).ld 0 R R) R)<|Ob h λbL Z h=>Jc3 R G Z U31 Z37 ?_
 obtain⟨a9,bu,W,aQ⟩:=(G.stp (T6 d e g m f j)).gSl Z
 refine Jg R (Jc2 I37 R R<|hvC aQ R)<|Jg R (Jc4 (haC (V.stp<|f.tr j).cells R) I28 Z28 R)<|Ob h λbM aX h=>Jr3 R C94 (nP (κ:=Mk B) (p0:=p0) aX) ?_
 rintro _ a1 ⟨bm,rfl,aD⟩
 obtain⟨C,t,bs⟩:=Ji aD 9 R
 refine⟨(t.cl R),Ob h λa4 aa h=>Jc3 R W aa U37 Z2<|Jg R (Jc2 I2 R R<|hvC (W.gInt aa) R)<|Jn 1 R<|Jt1<|Jd<|Ob h λI h aP=>Jo3 [2,3,4,5,6,12] (λE L w'=>∃κ' u y,L=(11,.slice u I.length y)::E/\Stp [4] C a1 κ' w'/\Oc E6 2 κ' w' 4 u y I) ?_ ?_⟩
 revert h
 cases bc:(a4==z)
 refine JF λh=>Jy R<|Js ?_
 cases h
 exact Jw1 _ ⟨C,p,o,R,Jj3,(H.stp<|T3 f j t)⟩<|KM R
 refine JT λh=>Jx R<|Jh3 [2,2,1,1,2] 2 R<|Jd4 (κ:=C) 11 [c.2] R Y37 bS R λa7 a8 bv ag M aF=>Tv<|Ob h λbN aY h=>Jy3 (κ:=ag) (E:=E6) 4 [] R Y37 bS R (H.stp<|T4 f j t M) (Sl.srcP (bY _) aF.rdc) bU aY R λax aw bw ah ao aG=>Tv<|Jc 1 R ?_
 cases h
 exact Jw1 _ ⟨ah,ax,aw,R,(M.tr ao).wk R,aG⟩<|KM R
 rintro _ bH ⟨an,u,y,rfl,av,aE⟩
 have h:=aP
 refine Jz<|Jp<|Jf3 R ?_
 cases h
 exact Jz1 λa ha=>⟨k,_,Ja3 _,⟨an,(I,((IntKind.i64.wrap<|c.2+1):Int)),u,y,R,(T5 m f j t av).wk R,aE,Y⟩,(ha.mm R)⟩
 rintro _ bC ⟨al,A,v,x,rfl,au,aI,rfl⟩
 have h:=yI aO
 refine Jp<|Je3 R<|Ju<|Ja2 (l:=[.tmp 10]) V143 (Jp2 R R) R ?_
 cases h
 exact⟨(λb=>ren [(4,2)]<|al b),v,x,R,((X.stp<|T7 s n i d e g au).map (ren [(4,2)]) R R),(aI.map (ren [(4,2)]) R R)⟩
 refine JT λh=>Jx R<|Je3 R<|Ju<|Jw<|Ja2 (l:=[.tmp 10]) V143 (Jp2 R R) R ?_
 cases h
 exact⟨(λb=>ren [(4,2)]<|q b),S,Q,R,((X.stp<|T6 s n i d e g).map (ren [(4,2)]) R R),((U.stp<|T3 d e g).map (ren [(4,2)]) R R)⟩
theorem pR {p0:Sig}{a1 bb}{p1:(List Clause)}(aj:Rd Clause.rp κ w 0 a1 bb p1){r:Det×Bool}(h:iP p0 p1=some r):Ret Tryz.prog 41 [.agg #[vi p0.In,vi p0.Out],.slice a1 p1.length bb] w (λv w'=>∃(κ':Col) (a7:Option Addr) (a9:Nat) (a8:Option Addr) (ba:Nat),v= .tuple #[.agg #[.slice a7 r.1.Next.length a9,.slice a8 r.1.Pairs.length ba],.bool r.2]/\Ent κ w κ' w'/\Oc (Ep.own E6 2) 37 κ' w' 2 a7 a9 r.1.Next/\Oc Pair.ep127 127 κ' w' 3 a8 ba r.1.Pairs):=by
 unfold iP at h
 refine Jk3 κ F41 R N41 R λay=>Je [1,1,2] R<|Js3 (κ:=κ) 2 R λcB w1 bi I b2=>Tv<|Jt3 (κ:=bi) 3 R X71 R λcC dh bm A aw=>Tv<|Jb 1 R<|Jq<|Je [1,1,2,2,1,2,1,2,2] R ?_
 have ax:=b2.stp A
 refine Jb4 tv R (Jc4 (haE ax.cells) I28 Z28 R)<|Ob h λcx cp h=>Jr3 R C82 (mn (κ:=Mk bm) (p0:=p0) cp) ?_
 rintro _ cu ⟨cK,rfl,bz⟩
 obtain⟨aD,g,cR⟩:=Ji bz 4 R
 refine Tv<|Jn 2 R<|Ob h λa5 h ci=>Jf4 [1,2,4] 19 a5 aD cu [(4,1),(5,2),(6,1),(7,2),(8,2)] [] tv ?_ ?_
 revert h
 cases cG:(!cx)
 refine JF λh=>Jb4 tv R (Jc4 (haE (ax.stp g).cells) I28 Z28 R)<|Jn 1 R<|Ob h λdp cq h=>Jr3 R C63 (mJ (κ:=Mk aD) (p0:=p0) (Ji3<|aj.stp<|T3 I A g) cq) ?_
 rintro _ da ⟨cP,rfl,bD⟩
 obtain⟨cy,bo,cS⟩:=Ji bD 6 R
 refine Tv<|Jn 2 R ?_
 cases h
 exact Jv1 _ tv ⟨R,_,bo.wk R⟩<|KM R
 refine JT λh=>Jz3 R<|Jn 1 R<|Jz3 R<|Jn 2 R ?_
 cases h
 exact Jg4 tv R
 rintro _ db _ ⟨rfl,am,n⟩
 have h:=ci
 refine Jd ?_
 revert h
 cases cI:a5
 refine JF λh=>Jy R<|Js<|Jp<|Je [1,1,1,1,2,1,1] R ?_
 have aT:=ax.stp (g.tr n)
 refine Jb4 tv R (Jc4 (haE aT.cells) I28 Z28 R)<|Ob h λdq cr h=>Jr3 R C103 (gq (κ:=Mk am) (p0:=p0) cr) ?_
 rintro _ dd ⟨cQ,rfl,bE⟩
 obtain⟨bj,u,cT⟩:=Ji bE 6 R
 refine Tv<|Ob h λal cs h=>Jl1 (κ:=bj) (E:=E6) (z:=(0:Int)) 8 R R R R R R R Y37 bS R R R R R (λ_ _ _=>R) (Ju2 cs) λbs bt de bk x b3=>Tv<|Jw3 (κ:=bk) (E:=(Ep.own E6 2)) 9 [8] (parts:=[(0,.tmp 23)]) (cells:=[.slice bs al.length bt]) (xs:=([al]:List (List Int))) R Y31 bZ R (Je4 ⟨_,_,R,b3⟩) λaP ar dg bl y b4=>Tv<|Jf R (Ji4 [.slice aP ([al]:List (List Int)).length ar,.slice none 0 0] R)<|Jt3 (κ:=bl) 10 R X71 R λaQ di O s b5=>Tv<|Jh4 (κ:=O) 10 R Z71 R b5 R λbc t b6=>Tv<|Jd<|Jq<|Jg3 [2,2,2] 1 R<|Jn3 R U29 R R<|Jb 1 R ?_
 have cj:(p1.length:Int)<=9223372036854775807:=aj.len_le
 refine Ob h λa6 cm aW=>?_
 clear h
 refine Jo3 [4,6] (λE L w'=>∃κ',∃D:(List<|List Int)×(List Pair),∃aa ab Z V,L=E/\Stp [10,12,13,14,17,19,20,21] O bc κ' w'/\Oc (Ep.own E6 2) 37 κ' w' 9 aa ab D.1/\Oc Pair.ep127 127 κ' w' 11 Z V D.2/\Bc κ' w' 10 aQ 71 [.slice aa D.1.length ab,.slice Z D.2.length V]/\a6=cb D) ?_ ?_
 refine Jv<|Jp3 [2,4,6,26,27] (λk E L w'=>∃κ' i,∃c:(List<|List Int)×(List Pair),∃ag X W ad,L=(28,vi i)::E/\Stp [10,12,13,14,17,19,20,21] O bc κ' w'/\Oc (Ep.own E6 2) 37 κ' w' 9 ag X c.1/\Oc Pair.ep127 127 κ' w' 11 W ad c.2/\Bc κ' w' 10 aQ 71 [.slice ag c.1.length X,.slice W c.2.length ad]/\0<=i/\hV ((p1.length:Int)-i)=k/\cntM (eU p0 p1) k i c=some a6) ⟨_,_,⟨O,0,((([al]:List (List Int)):(List<|List Int)),(([]:List Pair):(List Pair))),aP,ar,none,0,R,Jj3,(b4.stp<|s.tr t),Ow.nil,b6,(by decide),(by simp),cm⟩,(KM R)⟩ ?_
 rintro k _ dk ⟨aH,i,c,ag,X,W,ad,rfl,B,ah,ai,av,ck,cF,h⟩
 rcases k with _ | k
 have ak:=h;obtain⟨ct,h⟩:=cw (cb (eg c):(Det×Bool)⊕(((List (List Int))×(List Pair))⊕((List (List Int))×(List Pair))))
 have C:decide (i<(p1.length:Int))=false:=Jo2 (by omega)
 refine Je3 R<|Jq<|Jw2 R C<|Jc1<|Jt<|Jt ?_
 cases h
 have h:=ak
 refine Jb1 ?_
 cases h
 exact Jw1 _ ⟨aH,(c.1,c.2),ag,X,W,ad,R,B.wk R,ah,ai,av,R⟩<|KM R
 obtain⟨ct,h,ak⟩:=BI h;unfold eU at h
 have C:decide (i<(p1.length:Int))=true:=Jn2 (by omega)
 refine Je3 R<|Jq<|Jv2 R C<|Js<|Jp<|Jq<|Jv<|Je [2,1,1,1] R<|Ob h λbd aX h=>Jc3 R aj aX U29 Z67 ?_
 obtain⟨cE,cn,cl⟩:=((aj.stp (T10 I A g n u x y s t B))).gSt aX
 obtain⟨cz,cU,cA,cV,rfl,aU,aV⟩:=Clause.un cn
 refine Jb4 tv R (Jc4 (haE cl) I67 Z67 R)<|Jt3 (κ:=aH) 12 R X67 R λcD dl F d ca=>Tv<|Jh4 (κ:=F) 12 R Z67 R ca R λcv e ce=>Tv<|Jd<|Jq<|Ob h λaA aY h=>Ob h λo az h=>Jo3 [2,4,6,26,27,28] (λE L w'=>∃κ' j af ac ae Y,L=(9,.pointer (some ⟨j,0,none⟩))::(10,.bool o.2)::E/\Stp [13,17,19,20,21] F cv κ' w'/\Oc (Ep.own E6 2) 37 κ' w' 13 af ac o.1.Next/\Oc Pair.ep127 127 κ' w' 14 ae Y o.1.Pairs/\Bc κ' w' 15 j 71 [.slice af o.1.Next.length ac,.slice ae o.1.Pairs.length Y]) ?_ ?_
 refine WC.rxt (κ:=F) [2,10,12] none (by kernel_rfl) λdn f=>Jq1 (fuel:=8) [(0,0),(1,0),(2,0)] (by kernel_rfl) (by kernel_rfl) R<|Jg R (Jc4 (haC (av.stp<|T3 d e f).cells R) I71 Z71 R)<|Jg R (Jc4 (haC (aT.stp<|T9 u x y s t B d e f).cells R) I28 Z28 R)<|Jg R (Jc4 (haC (ce.stp f).cells R) I67 Z67 R)<|Jp1<|WA.fork2 (fuel:=7) 3 8 (by kernel_rfl) R ?_ ?_
 refine Jr3 R C105 (mU (κ:=Mk F) (p0:=p0) (p1:=bd) (Ji3<|aU.stp<|T3 d e f) (Ji3<|aV.stp<|T3 d e f) aY) ?_
 rintro _ cW ⟨cJ,bu,br,bv,bq,rfl,bw,bF,bG⟩
 obtain⟨aB,m,aZ⟩:=Ji bw 13 R
 refine⟨(m.cl R),?_⟩
 have aR:=bF.mx (df (cc _) _) aZ R (R:13+2=15)
 have aS:=bG.mx Pair.no127 aZ R (R:13+3=16)
 refine Jp1<|WA.fork2 (fuel:=6) 4 8 (by kernel_rfl) R ?_ ?_
 have aI:=(T4 d e f m)
 refine Jr3 R C104 (kH (κ:=Mk aB) (p0:=(⟨c.1,c.2⟩:Det)) (p1:=aA) (Ji3 (ah.stp aI).rdc) (Ji3 (ai.stp aI).rdc) (Ji3 aR.rdc) (Ji3 aS.rdc) az) ?_
 rintro _ cX ⟨cL,K,J,M,N,rfl,bx,bH,bI⟩
 obtain⟨be,aN,a0⟩:=Ji bx 17 R
 have an:=(m.tr aN)
 exact⟨(an.cl R),Jp1<|Jq1 (fuel:=0) [(5,2),(6,2),(7,2),(8,1),(9,1),(10,2)] (by kernel_rfl) (by kernel_rfl) R<|Jn 3 R<|Jt3 (κ:=be) 21 R X71 R λj cY aC G bJ=>⟨((an.tr G).cl R),Jh4 (κ:=aC) 21 R Z71 R bJ R λcZ Q bK=>⟨((T3 an G Q).cl R),Jn 1 R<|Jp1<|Jr1 [] (by kernel_rfl) (by kernel_rfl) R<|Jo<|Jw1 _ ⟨(λb=>ren [(19,13),(20,14),(21,15)]<|aC b),j,K,J,M,N,R,(Jy2 ((T5 f m aN G Q).wk R) [(19,13),(20,14),(21,15)] R),(((bH.mx (df (cc _) _) a0 R (R:17+2=19)).stp (G.tr Q)).map (ren [(19,13),(20,14),(21,15)]) R R),(((bI.mx Pair.no127 a0 R (R:17+3=20)).stp (G.tr Q)).map (ren [(19,13),(20,14),(21,15)]) R R),(bK.map (ren [(19,13),(20,14),(21,15)]) R R)⟩<|KM R⟩⟩⟩
 have aJ:=(T4 d e f m)
 refine Jt3 (κ:=aB) 17 R X71 R λj c0 bf p bL=>⟨((m.tr p).cl R),Jp1<|Jq1 (fuel:=0) [(4,1),(5,2),(6,2),(7,2),(9,1),(10,2)] (by kernel_rfl) (by kernel_rfl) R<|Jr3 R C104 (kH (κ:=Mk bf) (p0:=(⟨c.1,c.2⟩:Det)) (p1:=aA) (Ji3 (ah.stp<|aJ.tr p).rdc) (Ji3 (ai.stp<|aJ.tr p).rdc) (Ji3 (aR.stp p).rdc) (Ji3 (aS.stp p).rdc) az) ?_⟩
 rintro _ c1 ⟨cM,K,J,M,N,rfl,bA,bN,bO⟩
 obtain⟨aE,ao,a2⟩:=Ji bA 18 R
 have aK:=(T3 m p ao)
 exact⟨(aK.cl R),Jn 3 R<|Jh4 (κ:=aE) 17 R Z71 R (bL.stp ao) R λc2 S bP=>⟨((aK.tr S).cl R),Jn 1 R<|Jp1<|Jr1 [] (by kernel_rfl) (by kernel_rfl) R<|Jo<|Jw1 _ ⟨(λb=>ren [(20,13),(21,14),(17,15)]<|aE b),j,K,J,M,N,R,(Jy2 ((T5 f m p ao S).wk R) [(20,13),(21,14),(17,15)] R),(((bN.mx (df (cc _) _) a2 R (R:18+2=20)).stp S).map (ren [(20,13),(21,14),(17,15)]) R R),(((bO.mx Pair.no127 a2 R (R:18+3=21)).stp S).map (ren [(20,13),(21,14),(17,15)]) R R),(bP.map (ren [(20,13),(21,14),(17,15)]) R R)⟩<|KM R⟩⟩
 refine Jt3 (κ:=F) 13 R X71 R λj c3 bg q bQ=>⟨(q.cl R),Jp1<|Jq1 (fuel:=0) [(3,1),(4,1),(5,2),(6,2),(7,2),(9,1),(10,2)] (by kernel_rfl) (by kernel_rfl) R<|Jr3 R C105 (mU (κ:=Mk bg) (p0:=p0) (p1:=bd) (Ji3<|aU.stp<|T4 d e f q) (Ji3<|aV.stp<|T4 d e f q) aY) ?_⟩
 rintro _ c4 ⟨cN,bu,br,bv,bq,rfl,bB,bR,bT⟩
 obtain⟨bh,H,a3⟩:=Ji bB 14 R
 have aL:=(T5 d e f q H)
 refine⟨((q.tr H).cl R),Jr3 R C104 (kH (κ:=Mk bh) (p0:=(⟨c.1,c.2⟩:Det)) (p1:=aA) (Ji3 (ah.stp aL).rdc) (Ji3 (ai.stp aL).rdc) (Ji3 (bR.mx (df (cc _) _) a3 R (R:14+2=16)).rdc) (Ji3 (bT.mx Pair.no127 a3 R (R:14+3=17)).rdc) az) ?_⟩
 rintro _ c5 ⟨cO,K,J,M,N,rfl,bC,bU,bV⟩
 obtain⟨aF,ap,a4⟩:=Ji bC 18 R
 have aM:=(T3 q H ap)
 exact⟨(aM.cl R),Jn 3 R<|Jh4 (κ:=aF) 13 R Z71 R (bQ.stp<|H.tr ap) R λc6 T bW=>⟨((aM.tr T).cl R),Jn 1 R<|Jp1<|Jr1 [] (by kernel_rfl) (by kernel_rfl) R<|Jo<|Jw1 _ ⟨(λb=>ren [(20,13),(21,14),(13,15)]<|aF b),j,K,J,M,N,R,(Jy2 ((T5 f q H ap T).wk R) [(20,13),(21,14),(13,15)] R),(((bU.mx (df (cc _) _) a4 R (R:18+2=20)).stp T).map (ren [(20,13),(21,14),(13,15)]) R R),(((bV.mx Pair.no127 a4 R (R:18+3=21)).stp T).map (ren [(20,13),(21,14),(13,15)]) R R),(bW.map (ren [(20,13),(21,14),(13,15)]) R R)⟩<|KM R⟩⟩
 rintro _ dm ⟨P,j,af,ac,ae,Y,rfl,U,cf,cg,ch⟩
 refine Jp<|Jq<|Je3 R ?_
 revert h
 cases cH:(!o.2)
 refine JF λh=>Jy R<|Js<|Jp<|Ja [1,1] R<|Jb4 tv R (Jc4 (haE ch.cells) I71 Z71 R)<|Jh4 (κ:=P) 10 R Z71 R (av.stp<|T3 d e U) R λc8 aq bY=>Tv<|Jo<|Jz<|Jp<|Jf3 R ?_
 have co:bM .i64 (i+1)=i+1:=wr1 ck (Jm2 C) cj
 rw[co]
 have C:=Jm2 C
 cases h
 exact Jz1 λa ha=>⟨k,_,Ja3 _,⟨(λb=>ren [(13,9),(14,11)]<|P b),i+1,(o.1.Next,o.1.Pairs),af,ac,ae,Y,R,(Jy2 ((T5 B d e U aq).wk R) [(13,9),(14,11)] R),((cf.stp aq).map (ren [(13,9),(14,11)]) R R),((cg.stp aq).map (ren [(13,9),(14,11)]) R R),(bY.map (ren [(13,9),(14,11)]) R R),by omega,by omega,ak⟩,(ha.mm R)⟩
 refine JT λh=>Jx R<|Je [2,1,2] R<|Jf R (Ji4 [.slice none 0 0,.slice none 0 0] R)<|Jh4 (κ:=P) 3 R Z71 R (aw.stp<|T11 g n u x y s t B d e U) R λc7 bn bX=>Tv<|Jb 1 R<|Ju<|Jw<|Ja1<|Jw<|Jw ?_
 cases h
 obtain rfl:=Option.some.inj ak
 have h:=yL aW
 refine Ja1<|Jq2<|Jw<|Ja2 (l:=[.cell 4 71,.tmp 5]) V41 (cd R bX I71 Z71 R<|Jp2 R R) R ?_
 cases h
 exact⟨P,none,0,none,0,R,(ay.stp<|T14 I A g n u x y s t B d e U bn),Ow.nil,Ow.nil⟩
 rintro _ dj ⟨aG,D,aa,ab,Z,V,rfl,aO,b7,b8,b9,rfl⟩
 have h:=yI aW
 refine Jp<|Je [1,1,2] R<|Jb4 tv R (Jc4 (haE b9.cells) I71 Z71 R)<|Jh4 (κ:=aG) 3 R Z71 R (aw.stp<|T8 g n u x y s t aO) R λc9 au b0=>Tv<|Jb 1 R<|Ju<|Ja2 (l:=[.cell 4 71,.tmp 5]) V41 (cd R b0 I71 Z71 R<|Jp2 R R) R ?_
 cases h
 exact⟨(λb=>ren [(9,2),(11,3)]<|aG b),aa,ab,Z,V,R,((ay.stp<|T11 I A g n u x y s t aO au).map (ren [(9,2),(11,3)]) R R),((b7.stp au).map (ren [(9,2),(11,3)]) R R),((b8.stp au).map (ren [(9,2),(11,3)]) R R)⟩
 refine JT λh=>Jx R<|Je [2,1,2] R<|Jf R (Ji4 [.slice none 0 0,.slice none 0 0] R)<|Jh4 (κ:=am) 3 R Z71 R (aw.stp<|g.tr n) R λdc bp b1=>Tv<|Jb 1 R<|Ju<|Jw<|Ja2 (l:=[.cell 4 71,.tmp 5]) V41 (cd R b1 I71 Z71 R<|Jp2 R R) R ?_
 cases h
 exact⟨am,none,0,none,0,R,(ay.stp<|T5 I A g n bp),Ow.nil,Ow.nil⟩
theorem rW {a9 a6 a2 a7}{p0:Clause}{a4 a3 a8 ba}{p1:Word}(x:Rd (Rp.int .i64) κ w 0 a9 a6 p0.A) (y:Rd (Rp.int .i64) κ w 0 a2 a7 p0.B) (aj:Rd (Rp.int .i64) κ w 0 a4 a3 p1.Stem) (Q:Rd (Rp.int .i64) κ w 0 a8 ba p1.Loop){r:Bool}(h:kw p0 p1=some r):Ret Tryz.prog 214 [.agg #[vi p0.Kind,.slice a9 p0.A.length a6,.slice a2 p0.B.length a7],.agg #[.slice a4 p1.Stem.length a3,.slice a8 p1.Loop.length ba]] w (Pvb κ w r):=by
 unfold kw at h
 refine Jk3 κ F214 R N214 R λF=>Je [1,1,2] R<|Js3 (κ:=κ) 2 R λci w1 bD g cB=>Tv<|Js3 (κ:=bD) 3 R λdH eM bQ f aa=>Tv<|Jb 1 R<|Je [2,1,1] R<|Jf R (d8 (first:=[]) (captured:=[.tmp 2]) R R R ⟨_,R⟩)<|Jt3 (κ:=bQ) 4 R X91 R λdI eV V d cx=>Tv<|Jv3 (κ:=V) 4 (vc:=[.func (.func 255) #[] #[.pointer (some ⟨ci,0,none⟩)]]) R Z91 R cx R λdm e J=>Tv<|Jd<|Je [2,2] R<|Jf R (d8 (first:=[]) (captured:=[.tmp 2]) R R R ⟨_,R⟩)<|Jb 1 R<|Je [2,2] R<|Jf R (d8 (first:=[]) (captured:=[.tmp 5]) R R R ⟨_,R⟩)<|Jb 1 R<|Jq<|Ob h λao bm h=>Ob h λe2 aK h=>Ob h λe3 al h=>Ob h λK am h=>Jo3 [2,3,5,6,7] (λE L w'=>∃κ' aC aB,L=(8,.slice aC K.length aB)::E/\Stp [5,6] V dm κ' w'/\Oc E6 2 κ' w' 5 aC aB K) ?_ ?_
 refine WC.rxt (κ:=V) [0,3] none (by kernel_rfl) λew v=>Jq1 (fuel:=6) [(1,2),(4,2),(7,2),(2,0),(5,0),(8,0),(9,2),(10,0)] (by kernel_rfl) (by kernel_rfl) R<|Jd3 R U39 R Z37<|Jd3 R U39 R Z37<|Jd3 R U39 R Z37 ?_
 have aI:=aa.stp (T3 d e v)
 refine Jg R (Jc2 I37 R R<|hvC (aI.ld 0 R R) R)<|Jg R (Jc2 I37 R R<|hvC (aI.ld 1 R R) R)<|Jg R (Jc2 I37 R R<|hvC (aI.ld 1 R R) R)<|Jc3 R Q bm U37 Z2 ?_
 have Z:=Q.stp (T5 g f d e v)
 refine Jg R (Jc2 I2 R R<|hvC (Z.gInt bm) R)<|Jp1<|WA.fork2 (fuel:=5) 0 11 (by kernel_rfl) R ?_ ?_
 refine Jx3 (κ:=V) (E:=E6) 5 R Y37 bS R λcg ch eC aP j bf=>⟨(j.cl R),Jp1<|WA.fork2 (fuel:=4) 3 11 (by kernel_rfl) R ?_ ?_⟩
 refine Jy3 (κ:=aP) (E:=E6) 5 [] R Y37 bS R bf (Sl.srcP (bY _)<|aj.stp<|T6 g f d e v j) bU aK R λa5 ar eG aR X bk=>⟨((j.tr X).cl R),Jp1<|WA.fork2 (fuel:=3) 6 11 (by kernel_rfl) R ?_ ?_⟩
 have ac:=(j.tr X)
 exact Jy3 (κ:=aR) (E:=E6) 5 [] R Y37 bS R bk (Sl.srcP (bY _)<|Z.stp ac) bU al R λaD aA eI bK ae cA=>⟨((ac.tr ae).cl R),Jp1<|Jq1 (fuel:=0) [(11,1),(12,1),(13,2)] (by kernel_rfl) (by kernel_rfl) R<|Jd4 (κ:=bK) 6 [ao] R Y37 bS R λaz aE eJ bL af cC=>⟨((T3 ac ae af).cl R),Jy3 (κ:=bL) (E:=E6) 5 [] R Y37 bS R (cA.stp af) (Sl.srcP (bY _) cC.rdc) bU am R λH I eK bN aZ cD=>⟨((T4 ac ae af aZ).cl R),Jn 1 R<|Jp1<|Jr1 [] (by kernel_rfl) (by kernel_rfl) R<|Jo<|Jw1 _ ⟨bN,H,I,R,(T6 v j X ae af aZ).wk R,cD⟩<|KM R⟩⟩⟩
 have ad:=(j.tr X)
 exact Jd4 (κ:=aR) 6 [ao] R Y37 bS R λaz aE eL bO N cE=>⟨((ad.tr N).cl R),Jp1<|Jq1 (fuel:=0) [(6,1),(12,1),(13,2)] (by kernel_rfl) (by kernel_rfl) R<|Jy3 (κ:=bO) (E:=E6) 5 [] R Y37 bS R (bk.stp N) (Sl.srcP (bY _)<|Z.stp<|ad.tr N) bU al R λaD aA eN bP ag cF=>⟨((T3 ad N ag).cl R),Jy3 (κ:=bP) (E:=E6) 5 [] R Y37 bS R cF (Sl.srcP (bY _) (cE.stp ag).rdc) bU am R λH I eO bR a0 cG=>⟨((T4 ad N ag a0).cl R),Jn 1 R<|Jp1<|Jr1 [] (by kernel_rfl) (by kernel_rfl) R<|Jo<|Jw1 _ ⟨bR,H,I,R,(T6 v j X N ag a0).wk R,cG⟩<|KM R⟩⟩⟩
 exact Jd4 (κ:=aP) 6 [ao] R Y37 bS R λaz aE eP bT B cH=>⟨((j.tr B).cl R),Jp1<|Jq1 (fuel:=0) [(3,1),(6,1),(12,1),(13,2)] (by kernel_rfl) (by kernel_rfl) R<|Jy3 (κ:=bT) (E:=E6) 5 [] R Y37 bS R (bf.stp B) (Sl.srcP (bY _)<|aj.stp<|T7 g f d e v j B) bU aK R λa5 ar eQ bV O cI=>⟨((T3 j B O).cl R),Jy3 (κ:=bV) (E:=E6) 5 [] R Y37 bS R cI (Sl.srcP (bY _)<|Z.stp<|T3 j B O) bU al R λaD aA eR bW ah cJ=>⟨((T4 j B O ah).cl R),Jy3 (κ:=bW) (E:=E6) 5 [] R Y37 bS R cJ (Sl.srcP (bY _) (cH.stp<|O.tr ah).rdc) bU am R λH I eS bX a1 cK=>⟨((T5 j B O ah a1).cl R),Jn 1 R<|Jp1<|Jr1 [] (by kernel_rfl) (by kernel_rfl) R<|Jo<|Jw1 _ ⟨bX,H,I,R,(T6 v j B O ah a1).wk R,cK⟩<|KM R⟩⟩⟩⟩
 exact Jd4 (κ:=V) 5 [ao] R Y37 bS R λaz aE eT bZ C cL=>⟨(C.cl R),Jp1<|Jq1 (fuel:=0) [(0,1),(3,1),(6,1),(12,1),(13,2)] (by kernel_rfl) (by kernel_rfl) R<|Jx3 (κ:=bZ) (E:=E6) 6 R Y37 bS R λcg ch eU b0 D cM=>⟨((C.tr D).cl R),Jy3 (κ:=b0) (E:=E6) 6 [] R Y37 bS R cM (Sl.srcP (bY _)<|aj.stp<|T7 g f d e v C D) bU aK R λa5 ar eW b1 P cN=>⟨((T3 C D P).cl R),Jy3 (κ:=b1) (E:=E6) 6 [] R Y37 bS R cN (Sl.srcP (bY _)<|Z.stp<|T3 C D P) bU al R λaD aA eX b2 ai cu=>⟨((T4 C D P ai).cl R),Jy3 (κ:=b2) (E:=E6) 6 [] R Y37 bS R cu (Sl.srcP (bY _) (cL.stp<|T3 D P ai).rdc) bU am R λH I el bx aX cv=>⟨((T5 C D P ai aX).cl R),Jn 1 R<|Jp1<|Jr1 [] (by kernel_rfl) (by kernel_rfl) R<|Jo<|Jw1 _ ⟨(λb=>ren [(6,5)]<|bx b),H,I,R,(Jy2 ((T6 v C D P ai aX).wk R) [(6,5)] R),(cv.map (ren [(6,5)]) R R)⟩<|KM R⟩⟩⟩⟩⟩
 rintro _ bv ⟨q,aC,aB,rfl,c,Y⟩
 refine Jp<|Jq<|Je [2,1] R<|Jd3 R U67 R Z2 ?_
 have p:=cB.stp (T4 f d e c)
 refine Jb3 R I2 (p.ld 0 R R)<|Jd<|Jv<|Je3 R ?_
 revert h
 cases dL:(p0.Kind==1)
 refine JF λh=>Jy R<|Je3 R ?_
 revert h
 cases dM:(p0.Kind==2)
 refine JF λh=>Jy R<|Je3 R ?_
 revert h
 cases dP:(p0.Kind==3)
 refine JF λh=>Jy R<|Je3 R ?_
 revert h
 cases dT:(p0.Kind==4)
 refine JF λh=>Jy R<|Je3 R ?_
 revert h
 cases dU:(p0.Kind==5)
 refine JF λh=>Jy R<|Je3 R ?_
 revert h
 cases dV:(p0.Kind==6)
 refine JF λh=>Jy R<|Js<|Jz<|Jp<|Je [2,1,1,1,2,2,2,1,2,1,2,2] R<|Jd3 R U39 R Z37 ?_
 have bg:=aa.stp (T3 d e c)
 refine Jb3 R I37 (bg.ld 1 R R)<|Jb3 R I91 ((J.stp c).ld 0 R R)<|Ob h λdu c8 h=>?_
 have bh:=Q.stp (T5 g f d e c)
 have bi:=x.stp (T5 g f d e c)
 have bj:=y.stp (T5 g f d e c)
 refine Jr3 R C216 (cS (κ:=Mk q) (c1_0:=p0) (Ji3 bh) (Ji3 bi) (Ji3 bj) (p.map (mp [] 0) R R) c8) ?_
 rintro _ dt ⟨d6,rfl,cs⟩
 obtain⟨aQ,M,ej⟩:=Ji cs 6 R
 refine Tv<|Jn 2 R<|Ob h λdk h cV=>Ju1 [(6,2),(7,1),(8,2),(9,1),(10,2)] [(11,2)] (λL w'=>L=[(124,.bool dk)]/\∃κ',Stp [] aQ dt κ' w') tv ?_ ?_
 revert h
 cases dW:(!du)
 refine JF λh=>Jd3 R U39 R Z37<|Jb3 R I37 ((bg.stp M).ld 1 R R)<|Jn 1 R<|Ob h λe1 c9 h=>Jr3 R C216 (dr (κ:=Mk aQ) (c1_0:=p0) (Ji3<|bh.stp M) (Ji3<|bi.stp M) (Ji3<|bj.stp M) ((p.stp M).map (mp [] 0) R R) c9) ?_
 rintro _ eF ⟨d7,rfl,ct⟩
 obtain⟨dA,ce,ek⟩:=Ji ct 8 R
 refine Tv<|Jn 1 R ?_
 cases h
 exact Jv1 _ tv ⟨R,_,ce.wk R⟩<|KM R
 refine JT λh=>Jn 1 R<|Jz3 R<|Jn 1 R<|Jz3 R<|Jn 1 R ?_
 cases h
 exact Jg4 tv R
 rintro _ eH _ ⟨rfl,bJ,cf⟩
 have h:=cV
 refine Jb 1 R<|Ju<|Ja2 (l:=[.tmp 4]) V214 (Jp2 R R) R ?_
 cases h
 exact⟨bJ,R,(F.stp<|T7 g f d e c M cf)⟩
 have aS:=(T5 g f d e c)
 refine JT λh=>Jx R<|Jg3 [2,1,1,2] 1 R<|Jb3 R I91 ((J.stp c).ld 0 R R)<|Ob h λe0 c7 h=>Jr3 R C216 (cS (κ:=Mk q) (c1_0:=p0) (Ji3 Y.rdc) (Ji3<|x.stp aS) (Ji3<|y.stp aS) (p.map (mp [] 0) R R) c7) ?_
 rintro _ eE ⟨d5,rfl,cr⟩
 obtain⟨bI,cd,ei⟩:=Ji cr 6 R
 refine Tv<|Jb 1 R<|Ju<|Ja1<|Jw<|Ja2 (l:=[.tmp 4]) V214 (Jp2 R R) R ?_
 cases h
 exact⟨bI,R,(F.stp<|T6 g f d e c cd)⟩
 have av:=(T5 g f d e c)
 refine JT λh=>Jx R<|Je [2,1,2,1,2,2] R<|Jd3 R U39 R Z37<|Jb3 R I37 ((aa.stp<|T3 d e c).ld 1 R R)<|Jn 1 R<|Ob h λeZ c6 h=>Jr3 R C216 (cU (κ:=Mk q) (c1_0_0:=p0) (Ji3<|Q.stp av) (Ji3<|x.stp av) (Ji3<|y.stp av) ((J.stp c).map (mp [] 0) R R) (p.map (mp [] 0) R R) c6) ?_
 rintro _ eD ⟨d4,rfl,cq⟩
 obtain⟨bH,cc,eh⟩:=Ji cq 6 R
 refine Tv<|Jb 2 R<|Ju<|Ja1<|Jw<|Ja2 (l:=[.tmp 4]) V214 (Jp2 R R) R ?_
 cases h
 exact⟨bH,R,(F.stp<|T6 g f d e c cc)⟩
 have aw:=(T5 g f d e c)
 refine JT λh=>Jx R<|Je [2,1,1,1,2] R<|Jd3 R U39 R Z37<|Jb3 R I37 ((aa.stp<|T3 d e c).ld 1 R R)<|Jb3 R I91 ((J.stp c).ld 0 R R)<|Ob h λeY c5 h=>Jr3 R C216 (cS (κ:=Mk q) (c1_0:=p0) (Ji3<|Q.stp aw) (Ji3<|x.stp aw) (Ji3<|y.stp aw) (p.map (mp [] 0) R R) c5) ?_
 rintro _ eB ⟨d3,rfl,cp⟩
 obtain⟨bG,ca,ef⟩:=Ji cp 6 R
 refine Tv<|Jb 1 R<|Ju<|Ja1<|Jw<|Ja2 (l:=[.tmp 4]) V214 (Jp2 R R) R ?_
 cases h
 exact⟨bG,R,(F.stp<|T6 g f d e c ca)⟩
 refine JT λh=>Jx R<|Je3 R<|Jq<|Jq<|Js1 (κ:=q) [3] none [(1,2),(4,2),(8,2),(2,0),(5,0),(0,1),(3,1),(6,1),(7,2)] [] (by kernel_rfl) (by kernel_rfl) λes n=>Jd3 R U39 R Z37<|Jd3 R U39 R Z37<|Jn 1 R ?_
 have aG:=aa.stp (T4 d e c n)
 refine Jg R (Jc2 I37 R R<|hvC (aG.ld 0 R R) R)<|Jg R (Jc2 I37 R R<|hvC (aG.ld 1 R R) R)<|Jx3 (κ:=q) (E:=E6) 6 R Y37 bS R λdC dD et bB i cy=>⟨(i.cl R),Ob h λe8 dd h=>Jy3 (κ:=bB) (E:=E6) 6 [] R Y37 bS R cy (Sl.srcP (bY _)<|aj.stp<|T7 g f d e c n i) bU dd R λdE dB eu bC m cz=>⟨((i.tr m).cl R),Ob h λab de h=>?_⟩⟩
 have be:=Q.stp (T8 g f d e c n i m)
 refine Jy3 (κ:=bC) (E:=E6) 6 [] R Y37 bS R cz (Sl.srcP (bY _) be) bU de R λdF dG bw aq o aH=>⟨((T3 i m o).cl R),Jn3 R U37 R R<|Jt1<|Jd ?_⟩
 have cX:(ab.length:Int)<=9223372036854775807:=aH.len_le
 refine Ob h λbu c2 cP=>?_
 clear h
 refine Jo3 [3,6] (λE L w'=>∃κ',∃an:Bool,L=(10,.bool an)::E/\Stp [] aq bw κ' w'/\bu=cb an) ?_ ?_
 refine Jv<|Jp3 [3,5,6,69,70] (λk E L w'=>∃κ' t,∃U:Bool,L=(10,.bool U)::(71,vi t)::E/\Stp [] aq bw κ' w'/\0<=t/\hV ((ab.length:Int)-t)=k/\cntM (jf p0 ab) k t U=some bu) ⟨_,_,⟨aq,0,false,R,Jj3,(by decide),(by simp),c2⟩,(KM R)⟩ ?_
 rintro k _ dq ⟨au,t,U,rfl,A,cZ,dK,h⟩
 rcases k with _ | k
 have aJ:=h;obtain⟨dj,h⟩:=cw (cb (eg U):Bool⊕((Bool)⊕(Bool)))
 have T:decide (t<(ab.length:Int))=false:=Jo2 (by omega)
 refine Je3 R<|Jq<|Jw2 R T<|Jc1<|Jt<|Jt ?_
 cases h
 have h:=aJ
 refine Jb1 ?_
 cases h
 exact Jw1 _ ⟨au,U,R,A.wk R,R⟩<|KM R
 obtain⟨dj,h,aJ⟩:=BI h;unfold jf at h
 have T:decide (t<(ab.length:Int))=true:=Jn2 (by omega)
 refine Je3 R<|Jq<|Jv2 R T<|Js<|Jp<|Jq<|Jv<|Je [2,1,2] R<|Ob h λe9 bp h=>Jc3 R aH.rdc bp U37 Z2<|Jb3 R I2 ((aH.stp A).rdc.gInt bp)<|Jb 1 R<|Jh3 [2,2,1,2,1,2,2,2,2,1,2,2,2] 2 R<|Ob h λbr h cQ=>Jf4 [3,5,6,10,12,69,70,71] 80 br au dq [(2,1),(3,2),(4,1),(5,2)] [(6,2),(7,2),(8,2),(9,1),(10,2),(11,2),(12,2)] tv ?_ ?_
 revert h
 cases dQ:U
 have aT:=(T10 g f d e c n i m o A)
 refine JF λh=>Jb3 R I91 ((J.stp<|T6 c n i m o A).ld 0 R R)<|Jn 1 R<|Ob h λfa df h=>WO.callV R R R R R R R R C255 (je (κ:=Mk au) (c0:=p0) (Ji3<|x.stp aT) (Ji3<|y.stp aT) ((p.stp<|T5 n i m o A).map (mp [] 0) R R) df) ?_
 rintro _ ev ⟨d0,rfl,cm⟩
 obtain⟨dx,b5,ec⟩:=Ji cm 7 R
 refine Tv<|Jn 1 R ?_
 cases h
 exact Jv1 _ tv ⟨R,_,b5.wk R⟩<|KM R
 refine JT λh=>Jz3 R<|Jn 1 R<|Jz3 R<|Jn 1 R ?_
 cases h
 exact Jg4 tv R
 rintro _ ds _ ⟨rfl,aO,ay⟩
 have h:=cQ
 refine Jn 1 R<|Ob h λbs h cR=>Jf4 [3,5,6,10,69,70,71] 86 bs aO ds [(7,2),(8,2),(9,1),(10,2),(11,2)] [(12,2)] tv ?_ ?_
 revert h
 cases dR:br
 refine JF λh=>Jn 2 R<|Jz3 R<|Jn 2 R ?_
 cases h
 exact Jg4 tv R
 have aU:=(T11 g f d e c n i m o A ay)
 refine JT λh=>Jn 2 R<|Ob h λfb dg h=>WO.callV R R R R R R R R C256 (kD (κ:=Mk aO) (c0:=p0) (Ji3<|x.stp aU) (Ji3<|y.stp aU) ((p.stp<|T6 n i m o A ay).map (mp [] 0) R R) dg) ?_
 rintro _ ex ⟨d1,rfl,cn⟩
 obtain⟨dy,b6,ed⟩:=Ji cn 7 R
 refine Tv<|Jn 2 R ?_
 cases h
 exact Jv1 _ tv ⟨R,_,b6.wk R⟩<|KM R
 rintro _ ey _ ⟨rfl,bE,b7⟩
 have h:=cR
 refine Jc 1 R<|Jz<|Jp<|Jf3 R ?_
 have c4:bM .i64 (t+1)=t+1:=wr1 cZ (Jm2 T) cX
 rw[c4]
 have T:=Jm2 T
 cases h
 exact Jz1 λa ha=>⟨k,_,Ja3 _,⟨bE,t+1,bs,R,(T3 A ay b7).wk R,by omega,by omega,aJ⟩,(ha.mm R)⟩
 rintro _ dp ⟨aN,an,rfl,W,rfl⟩
 have h:=yI cP
 refine Jp<|Jg3 [2,2,2,2,1,2,1,2,2] 3 R<|Ob h λdl h cT=>Ju1 [(3,2),(4,1),(5,2),(6,1),(7,2)] [(8,2)] (λL w'=>L=[(95,.bool dl)]/\∃κ',Stp [] aN dp κ' w') tv ?_ ?_
 revert h
 cases dS:(!an)
 have aV:=(T10 g f d e c n i m o W)
 refine JF λh=>Jd3 R U39 R Z37<|Jb3 R I37 ((aG.stp<|T4 i m o W).ld 1 R R)<|Jn 1 R<|Ob h λfc dh h=>Jr3 R C216 (dr (κ:=Mk aN) (c1_0:=p0) (Ji3<|be.stp<|o.tr W) (Ji3<|x.stp aV) (Ji3<|y.stp aV) ((p.stp<|T5 n i m o W).map (mp [] 0) R R) dh) ?_
 rintro _ ez ⟨d2,rfl,co⟩
 obtain⟨dz,b8,ee⟩:=Ji co 7 R
 refine Tv<|Jn 1 R ?_
 cases h
 exact Jv1 _ tv ⟨R,_,b8.wk R⟩<|KM R
 refine JT λh=>Jn 1 R<|Jz3 R<|Jn 1 R<|Jz3 R<|Jn 1 R ?_
 cases h
 exact Jg4 tv R
 rintro _ eA _ ⟨rfl,bF,b9⟩
 have h:=cT
 refine Jb 1 R<|Ju<|Ja1<|Jw<|Ja2 (l:=[.tmp 4]) V214 (Jp2 R R) R ?_
 cases h
 exact⟨bF,R,(F.stp<|T11 g f d e c n i m o W b9)⟩
 refine JT λh=>Jx R<|Jq<|Je3 R ?_
 have cW:(K.length:Int)<=9223372036854775807:=Y.len_le
 refine Ob h λbt c1 bl=>?_
 clear h
 refine Jx1 (λL w'=>∃κ',L=[]/\Stp [] q bv κ' w'/\bt=cb ()) ?_ ?_
 refine Jv<|Jp3 [5,6,8] (λk E L w'=>∃κ' u,L=(9,vi u)::E/\Stp [] q bv κ' w'/\0<=u/\hV ((K.length:Int)-u)=k/\cntM (fB p0 K) k u ()=some bt) ⟨_,_,⟨q,1,R,Jj3,(by decide),(by simp),c1⟩,(KM R)⟩ ?_
 rintro k _ eo ⟨ap,u,rfl,z,cY,dJ,h⟩
 rcases k with _ | k
 have ak:=h;obtain⟨di,h⟩:=cw (cb (eg ()):Bool⊕((Unit)⊕(Unit)))
 have S:decide (u<(K.length:Int))=false:=Jo2 (by omega)
 refine Jq<|Jg3 [2,2,2,2] 2 R<|Jn3 R U37 R R<|Jb 1 R<|Jw2 R S<|Jc1<|Jt<|Jt ?_
 cases h
 have h:=ak
 refine Jb1 ?_
 cases h
 exact Jw1 _ ⟨ap,R,z.wk R,R⟩ KN
 obtain⟨di,h,ak⟩:=BI h;unfold fB at h
 have S:decide (u<(K.length:Int))=true:=Jn2 (by omega)
 refine Jq<|Jg3 [2,2,2,2] 2 R<|Jn3 R U37 R R<|Jb 1 R<|Jv2 R S<|Js<|Jp<|Jq<|Jv<|Jq<|Js1 (κ:=ap) [0,4,5] none [(1,2),(2,2),(3,2),(4,2),(0,0),(5,0),(6,1),(7,2),(8,2),(9,2),(10,2),(11,2),(12,0),(13,1),(14,2),(15,2)] [] (by kernel_rfl) (by kernel_rfl) λep G=>Jn 3 R<|Ob h λe5 bn h=>Jc3 R Y.rdc bn U37 Z2<|Jg R (Jc2 I91 R R<|hvC ((J.stp<|T3 c z G).ld 0 R R) R) ?_
 have aF:=Y.stp (z.tr G)
 refine Jg R (Jc2 I2 R R<|hvC (aF.rdc.gInt bn) R)<|Ob h λdv db h=>?_
 have bb:=x.stp (T7 g f d e c z G)
 have bc:=y.stp (T7 g f d e c z G)
 have bd:=p.stp (z.tr G)
 refine WO.callV R R R R R R R R C255 (je (κ:=Mk ap) (c0:=p0) (Ji3 bb) (Ji3 bc) (bd.map (mp [] 0) R R) db) ?_
 rintro _ dn ⟨dY,rfl,ck⟩
 obtain⟨aL,s,ea⟩:=Ji ck 6 R
 refine⟨(s.cl R),Jn 1 R<|Ob h λbq h cO=>Jf4 [5,6,8,9] 60 bq aL dn [(8,2),(9,2),(10,2),(11,2),(12,0),(13,1),(14,2),(15,2)] [] (s.cl R) ?_ ?_⟩
 revert h
 cases dN:dv
 refine JF λh=>Jn 4 R<|Ja4 R<|Jz3 R<|Jn 2 R ?_
 cases h
 exact Jv1 _ (s.cl R) ⟨R,_,Jj3⟩<|KM R
 refine JT λh=>Jn 3 R<|Ob h λe6 bo h=>Jc3 R aF.rdc bo U37 Z2<|Jg R (Jc2 I2 R R<|hvC (aF.rdc.gInt bo) R)<|Ob h λe7 dc h=>WO.callV R R R R R R R R C256 (kD (κ:=Mk aL) (c0:=p0) (Ji3<|bb.stp s) (Ji3<|bc.stp s) ((bd.stp s).map (mp [] 0) R R) dc) ?_
 rintro _ eq ⟨dZ,rfl,cl⟩
 obtain⟨dw,ax,eb⟩:=Ji cl 8 R
 refine⟨((s.tr ax).cl R),Jn 2 R ?_⟩
 cases h
 exact Jv1 _ ((s.tr ax).cl R) ⟨R,_,ax.wk R⟩<|KM R
 rintro _ er _ ⟨rfl,aM,aY⟩
 have h:=cO
 refine Jt1<|Jd ?_
 revert h
 cases dO:bq
 refine JF λh=>Jy R<|Js<|Jz<|Jp<|Jf3 R ?_
 have c3:bM .i64 (u+1)=u+1:=wr1 cY (Jm2 S) cW
 rw[c3]
 have S:=Jm2 S
 cases h
 exact Jz1 λa ha=>⟨k,_,Ja3 _,⟨aM,u+1,R,(T4 z G s aY).wk R,by omega,by omega,ak⟩,(ha.mm R)⟩
 refine JT λh=>Jx R<|Je3 R<|Ju<|Ja1<|Jw<|Jw ?_
 cases h
 obtain rfl:=Option.some.inj ak
 have h:=yL bl
 refine Ja1<|Jq2<|Jw<|Ja1<|Jw<|Ja2 (l:=[.tmp 4]) V214 (Jp2 R R) R ?_
 cases h
 exact⟨aM,R,(F.stp<|T9 g f d e c z G s aY)⟩
 rintro _ en ⟨bA,rfl,b4,rfl⟩
 have h:=yI bl
 refine Jp<|Je3 R<|Ju<|Ja1<|Jw<|Ja2 (l:=[.tmp 4]) V214 (Jp2 R R) R ?_
 cases h
 exact⟨bA,R,(F.stp<|T6 g f d e c b4)⟩
 have aW:=(T5 g f d e c)
 refine JT λh=>Jx R<|Jg3 [2,2,1,2,2] 2 R<|Ob h λe4 da h=>Jr3 R C216 (cU (κ:=Mk q) (c1_0_0:=p0) (Ji3 Y.rdc) (Ji3<|x.stp aW) (Ji3<|y.stp aW) ((J.stp c).map (mp [] 0) R R) (p.map (mp [] 0) R R) da) ?_
 rintro _ em ⟨dX,rfl,cj⟩
 obtain⟨bz,b3,d9⟩:=Ji cj 6 R
 refine Tv<|Jb 2 R<|Ju<|Ja1<|Jw<|Ja2 (l:=[.tmp 4]) V214 (Jp2 R R) R ?_
 cases h
 exact⟨bz,R,(F.stp<|T6 g f d e c b3)⟩
end Go.Proofs.YtleekpaohfpooaaGreat
