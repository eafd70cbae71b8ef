/- The walks, part 6. By program. -/
import Derived.Test.YtgbippnfaoedmaaGreatDoorFns5BG
set_option linter.unusedVariables false
set_option linter.unusedSimpArgs false
open Go.Wk.Ep renaming own → zp
open Int renaming toNat → zq
open Go.IntKind renaming wrap → zr
open Option.some renaming inj → zt
open Sum renaming inr → zw
namespace Go.Proofs.YtgbippnfaoedmaaGreatDoor
open Tryz
open Go Go.Wk Go.Proofs
set_option maxRecDepth 100000
set_option maxHeartbeats 1000000
section
variable {w:World}{J:Col}
theorem rO {B M}{p0:VI}{C N}{p1:VI}(E:Rd Ri J w 0 B M p0) (m:Rd Ri J w 0 C N p1){r:VI}(h:kw p0 p1=some r):Ret prog 13 [.slice B p0.length M,.slice C p1.length N] w (λaw a=>∃(b:Col) (K:Option Addr) (L:Nat),aw= .slice K r.length L/\Ent J w b a/\Rd Ri b a 0 K L r):=by
 unfold kw at h
 refine Jp3 J func13 R ntmps13 R λF=>Jf3 R<|Jq<|Jl3 2 R<|Ob h λaA ar h=>Jw3 R call22 (rX (J:=Mk J) (Jn3 E) (Jn3 m) ar) ?_
 rintro _ aK ⟨aF,rfl,ah⟩
 obtain⟨x,f,aJ⟩:=Ji ah 2 R
 refine Tv<|Jb 1 R ?_
 revert h
 cases aE:(!aA)
 refine JF λh=>Jy R<|Js<|Jp<|Jl3 1 R<|Ob h λay ap h=>Jw3 R call23 (cW (J:=Mk x) (Jn3<|E.stp f) ap) ?_
 rintro _ v ⟨aG,ac,ab,rfl,ag,ak⟩
 obtain⟨S,z,au⟩:=Ji ag 4 R
 refine Tv<|Jb 1 R<|Jq<|Jf3 R<|Ob h λI ao an=>?_
 clear h
 obtain⟨q,A,aC⟩:=b9 S v 6
 refine Jx1 (λs a=>∃b,∃p:VI,∃i g,s=[(5,.slice i p.length g)]/\Stp [] q v b a/\Rd Ri b a 0 i g p/\I=zw p) ?_ ?_
 refine Jv<|Ju3 [1] (λd O s a=>∃b c,∃e:VI,∃k j,s=(5,.slice k e.length j)::(6,vi c)::O/\Stp [] q v b a/\Rd Ri b a 0 k j e/\0<=c/\zq ((p1.length:Int)-c)=d/\cntM (gX p1) d c e=some I) ⟨_,_,⟨q,0,ay,ac,ab,R,Jo3,(Sl.st aC (ak.mx (aT _) au R (R:4+2=6)).rdc),(by decide),(by simp),ao⟩,(KM R)⟩ ?_
 rintro d _ aM ⟨y,c,e,k,j,rfl,t,D,G,n,h⟩
 rcases d with _|d
 have o:=h;obtain⟨av,h⟩:=exq o
 have u:=dcf n
 refine Jq<|Jl3 2 R<|Js3 R U27 R R<|Jb 1 R<|Jx2 R u<|Jc1<|Jt<|Jt ?_
 cases h
 have h:=o
 refine Jb1 ?_
 cases h
 exact Jw1 _ ⟨y,e,k,j,R,t.wk R,D,R⟩<|KM R
 obtain⟨av,h,o⟩:=BI h;unfold gX at h
 have u:=dct n
 refine Jq<|Jl3 2 R<|Js3 R U27 R R<|Jb 1 R<|Jw2 R u<|Js<|Jp<|Jq<|Jv<|Jm3 3 R<|Ob h λaO H h=>Jd3 R m H U27 Z2<|Jc3 R I2 ((m.stp<|T4 f z A t).gInt H)<|Ob h λaz aq h=>Jw3 R call24 (rT (J:=λaf=>mp [] 1<|y af) (Jm2 D (mp [] 1) R R) aq) ?_
 rintro _ aN ⟨aH,ad,Z,rfl,ai,am⟩
 obtain⟨U,Y,aI,aD⟩:=Jj ai 7 R
 refine Tv<|Jc 1 R<|Jz<|Jp<|Jg3 R<|wr2 G n m.len_le ▸ ?_
 cases h
 exact Ja2 ⟨U,c+1,az,ad,Z,R,(t.tr Y).wk R,(am.mx aD),nxz G,nxm n,o⟩ R
 rintro _ aL ⟨T,p,i,g,rfl,X,al,rfl⟩
 have h:=yI an
 refine Jp<|Jf3 R<|Ju<|Jb2 (l:=[.tmp 4]) results13 (Jq2 R R) R ?_
 cases h
 exact⟨T,i,g,R,(F.stp<|T4 f z A X),al⟩
 refine JT λh=>Jx R<|Jj3<|Jc4 x E6 4 R Y27 aR R λaa ae ax P V aj=>Tv<|Jb 1 R<|Ju<|Jw ?_
 obtain⟨Q,W,aB⟩:=b9 P ax 4
 refine Jb2 (l:=[.tmp 4]) results13 (Jq2 R R) R ?_
 cases h
 exact⟨Q,aa,ae,R,(F.stp<|T3 f V W),(Sl.st aB aj.rdc)⟩
theorem nD {o i k n j m}{p0:Parity}{p1:Int}(D:Rd Ri J w 0 o i p0.Arena.Owner) (E:Rd Rs J w 0 k n p0.Arena.Next) (F:Rd Ri J w 0 j m p0.Prio){r:ByteArray}(h:fV p0 p1=some r):Ret prog 7 [.agg #[.slice o p0.Arena.Owner.length i,.slice k p0.Arena.Next.length n,.slice j p0.Prio.length m],vi p1] w (λL M=>∃(P:Col),L= .string r/\Ent J w P M):=by
 unfold fV at h
 refine Jp3 J func7 R ntmps7 R λt=>Jj3<|Jx3 J 2 R λS ab v a e=>Tv<|Jb 1 R<|Jq<|Jj3<|Jg4 tv R (Jh4 (haE e.cells) I32 Z32 R)<|Ob h λO K h=>?_
 have p:=D.stp a
 have q:=E.stp a
 have s:=F.stp a
 refine Jw3 R call14 (jl (J:=Mk v) (p0:=p0) (Jn3 p) (Jn3 q) (Jn3 s) K) ?_
 rintro _ N ⟨X,rfl,A⟩
 obtain⟨f,c,Y⟩:=Ji A 3 R
 refine Tv<|Jn 2 R<|Ob h λu h G=>Jk4 [1,2] 16 u f N 8 tv ?_ ?_
 revert h
 cases T:(!O)
 refine JF λh=>Jn 1 R<|Je3 R U32 R Z27<|Jc3 R I27 ((e.stp c).ld 2 R R)<|Js3 R U27 R R<|Jn 1 R<|Ob h λaf H h=>Jw3 R call15 (iA (J:=Mk f) H) ?_
 rintro _ ac ⟨V,rfl,B⟩
 obtain⟨Q,y,Z⟩:=Ji B 5 R
 refine Tv<|Jn 2 R ?_
 cases h
 exact Jv1 _ tv ⟨R,_,y.wk R⟩<|KM R
 refine JT λh=>Jn 2 R<|Je4 R<|Jn 2 R<|Je4 R<|Jn 2 R ?_
 cases h
 exact Jl4 tv R
 rintro _ ad _ ⟨rfl,g,d⟩
 have h:=G
 refine Jd ?_
 revert h
 cases U:u
 have b:=(c.tr d)
 refine JF λh=>Jy R<|Js<|Jp<|Jj3<|Jg4 tv R (Jh4 (haE (e.stp b).cells) I32 Z32 R)<|Jn 1 R<|Ob h λag I h=>Jw3 R call16 (qD (J:=Mk g) (p0:=p0) (Jn3<|p.stp b) (Jn3<|q.stp b) (Jn3<|s.stp b) I) ?_
 rintro _ ae ⟨W,rfl,C⟩
 obtain⟨x,z,aa⟩:=Ji C 5 R
 refine Tv<|Jb 1 R<|Ju<|Jb2 (l:=[.tmp 4]) results7 (Jq2 R R) R ?_
 cases h
 exact⟨x,R,(t.stp<|T4 a c d z)⟩
 refine JT λh=>Jx R<|Jf3 R<|Ju<|Jw<|Jb2 (l:=[.tmp 4]) results7 (Jq2 R R) R ?_
 cases h
 exact⟨g,R,(t.stp<|T3 a c d)⟩
theorem rP {aM aL ay aK aN aO}{p0:Parity}{aJ bb}{p1:VI}(b5:Rd Ri J w 0 aM aL p0.Arena.Owner) (b6:Rd Rs J w 0 ay aK p0.Arena.Next) (b7:Rd Ri J w 0 aN aO p0.Prio) (ai:Rd Ri J w 0 aJ bb p1){r:Parity×Bool}(h:kx p0 p1=some r):Ret prog 49 [.agg #[.slice aM p0.Arena.Owner.length aL,.slice ay p0.Arena.Next.length aK,.slice aN p0.Prio.length aO],.slice aJ p1.length bb] w (λcq a=>∃(b:Col) (a5:Option Addr) (a8:Nat) (a6:Option Addr) (a9:Nat) (a7:Option Addr) (ba:Nat),cq= .tuple #[.agg #[.slice a5 r.1.Arena.Owner.length a8,.slice a6 r.1.Arena.Next.length a9,.slice a7 r.1.Prio.length ba],.bool r.2]/\Ent J w b a/\Oc E6 2 b a 2 a5 a8 r.1.Arena.Owner/\Oc (zp E6 2) 27 b a 3 a6 a9 r.1.Arena.Next/\Oc E6 2 b a 4 a7 ba r.1.Prio):=by
 unfold kx at h
 refine Jp3 J func49 R ntmps49 R λaX=>Jj3<|Jx3 J 2 R λcB cR bi v bT=>Tv<|Jy3 bi 3 R X32 R λcC c7 bj o aW=>Tv<|Jb 1 R<|Jq<|Jj3 ?_
 have ah:=bT.stp o
 refine Jg4 tv R (Jh4 (haE ah.cells) I32 Z32 R)<|Ob h λcu cf h=>?_
 have af:=b5.stp (v.tr o)
 have ag:=b6.stp (v.tr o)
 have M:=b7.stp (v.tr o)
 refine Jw3 R call14 (jl (J:=Mk bj) (p0:=p0) (Jn3 af) (Jn3 ag) (Jn3 M) cf) ?_
 rintro _ cr ⟨cI,rfl,bx⟩
 obtain⟨aB,c,cO⟩:=Ji bx 4 R
 refine Tv<|Jn 2 R<|Ob h λa3 h ca=>Jk4 [1,2,4] 17 a3 aB cr 5 tv ?_ ?_
 revert h
 cases cE:(!cu)
 refine JF λh=>Jg4 tv R (Jh4 (haE (ah.stp c).cells) I32 Z32 R)<|Jn 1 R<|Ob h λdg cg h=>Jw3 R call92 (qI (J:=Mk aB) (p0:=p0) (Jn3<|af.stp c) (Jn3<|ag.stp c) (Jn3<|M.stp c) (Jn3<|ai.stp<|T3 v o c) cg) ?_
 rintro _ c5 ⟨cK,rfl,bA⟩
 obtain⟨cx,bn,cP⟩:=Ji bA 6 R
 refine Tv<|Jn 2 R ?_
 cases h
 exact Jv1 _ tv ⟨R,_,bn.wk R⟩<|KM R
 refine JT λh=>Je4 R<|Jn 1 R<|Je4 R<|Jn 2 R ?_
 cases h
 exact Jl4 tv R
 rintro _ ct _ ⟨rfl,B,f⟩
 have h:=ca
 refine Jd ?_
 revert h
 cases cF:a3
 refine JF λh=>Jy R<|Js<|Jp<|Jq<|Ob h λd aZ h=>Ob h λe av h=>Jt3 [1,2,4] (λt u a=>∃b i z x Y aa A y,u=(6,.pointer (some ⟨i,0,none⟩))::t/\Stp [6,8,9,11,12] B ct b a/\Oc E6 2 b a 6 z x (((⟨(⟨d,([]:VV)⟩:Arena),e⟩:Parity).Arena).Owner)/\Oc (zp E6 2) 27 b a 7 Y aa (((⟨(⟨d,([]:VV)⟩:Arena),e⟩:Parity).Arena).Next)/\Oc E6 2 b a 8 A y ((⟨(⟨d,([]:VV)⟩:Arena),e⟩:Parity).Prio)/\Bc b a 9 i 32 [.slice z (((⟨(⟨d,([]:VV)⟩:Arena),e⟩:Parity).Arena).Owner).length x,.slice Y (((⟨(⟨d,([]:VV)⟩:Arena),e⟩:Parity).Arena).Next).length aa,.slice A ((⟨(⟨d,([]:VV)⟩:Arena),e⟩:Parity).Prio).length y]) ?_ ?_
 refine WC.rxt (J:=B) [2] none (by kernel_rfl) λc8 j=>Jq1 (fuel:=6) [(0,2),(1,2),(5,2),(2,0),(6,0)] (by kernel_rfl) (by kernel_rfl) R<|Je3 R U32 R Z30<|Je3 R U30 R Z27<|Je3 R U32 R Z27 ?_
 have aU:=ah.stp (T3 c f j)
 refine Jg R (Jd2 I27 R R<|hvC (aU.ld 0 R R) R)<|Jg R (Jd2 I27 R R<|hvC (aU.ld 2 R R) R)<|Jp1<|WA.fork2 (fuel:=5) 3 9 (by kernel_rfl) R ?_ ?_
 refine Jw3 R call23 (cW (J:=Mk B) (Jn3<|af.stp<|T3 c f j) aZ) ?_
 rintro _ c9 ⟨cL,k,m,rfl,bB,bZ⟩
 obtain⟨aD,g,cm⟩:=Ji bB 6 R
 refine⟨(g.cl R),?_⟩
 have aV:=bZ.mx (aT _) cm R (R:6+2=8)
 refine Jp1<|Jq1 (fuel:=4) [(4,2)] (by kernel_rfl) (by kernel_rfl) R<|Jf R (Jn4 [.slice k d.length m,.slice none 0 0] R)<|Jp1<|WA.fork2 (fuel:=3) 7 9 (by kernel_rfl) R ?_ ?_
 refine Jw3 R call23 (cW (J:=Mk aD) (Jn3<|M.stp<|T4 c f j g) av) ?_
 rintro _ da ⟨cM,p,q,rfl,bC,b0⟩
 obtain⟨bk,I,cn⟩:=Ji bC 9 R
 exact⟨((g.tr I).cl R),Jp1<|Jq1 (fuel:=0) [(8,2),(9,1),(10,1)] (by kernel_rfl) (by kernel_rfl) R<|Jf R (Jn4 [.slice k d.length m,.slice none 0 0,.slice p e.length q] R)<|Jy3 bk 12 R X32 R λi db aE K b1=>⟨((T3 g I K).cl R),Jm4 aE 12 R Z32 R b1 R λdc V b2=>⟨((T4 g I K V).cl R),Jp1<|Jr1 [] (by kernel_rfl) (by kernel_rfl) R<|Jo<|Jw1 _ ⟨(λn=>ren [(8,6),(11,8),(12,9)]<|aE n),i,k,m,none,0,p,q,R,(Jz2 ((T5 j g I K V).wk R) [(8,6),(11,8),(12,9)] R),((aV.stp<|T3 I K V).map (ren [(8,6),(11,8),(12,9)]) R R),Ow.nil,(((b0.mx (aT _) cn R (R:9+2=11)).stp (K.tr V)).map (ren [(8,6),(11,8),(12,9)]) R R),(b2.map (ren [(8,6),(11,8),(12,9)]) R R)⟩<|KM R⟩⟩⟩
 refine Jy3 aD 9 R X32 R λi dd bl D b3=>⟨((g.tr D).cl R),Jp1<|Jq1 (fuel:=0) [(7,1),(8,2),(10,1)] (by kernel_rfl) (by kernel_rfl) R<|Jw3 R call23 (cW (J:=Mk bl) (Jn3<|M.stp<|T5 c f j g D) av) ?_⟩
 rintro _ de ⟨cN,p,q,rfl,bD,b4⟩
 obtain⟨aF,L,co⟩:=Ji bD 10 R
 exact⟨((T3 g D L).cl R),Jf R (Jn4 [.slice k d.length m,.slice none 0 0,.slice p e.length q] R)<|Jm4 aF 9 R Z32 R (b3.stp L) R λdf W bE=>⟨((T4 g D L W).cl R),Jp1<|Jr1 [] (by kernel_rfl) (by kernel_rfl) R<|Jo<|Jw1 _ ⟨(λn=>ren [(8,6),(12,8)]<|aF n),i,k,m,none,0,p,q,R,(Jz2 ((T5 j g D L W).wk R) [(8,6),(12,8)] R),((aV.stp<|T3 D L W).map (ren [(8,6),(12,8)]) R R),Ow.nil,(((b4.mx (aT _) co R (R:10+2=12)).stp W).map (ren [(8,6),(12,8)]) R R),(bE.map (ren [(8,6),(12,8)]) R R)⟩<|KM R⟩⟩
 refine Jy3 B 6 R X32 R λi cS bd C bF=>⟨(C.cl R),Jp1<|Jq1 (fuel:=0) [(3,1),(4,2),(7,1),(8,2),(10,1)] (by kernel_rfl) (by kernel_rfl) R<|Jw3 R call23 (cW (J:=Mk bd) (Jn3<|af.stp<|T4 c f j C) aZ) ?_⟩
 rintro _ cT ⟨cG,k,m,rfl,bu,bG⟩
 obtain⟨be,F,cj⟩:=Ji bu 7 R
 refine⟨((C.tr F).cl R),Jf R (Jn4 [.slice k d.length m,.slice none 0 0] R)<|Jw3 R call23 (cW (J:=Mk be) (Jn3<|M.stp<|T5 c f j C F) av) ?_⟩
 rintro _ cU ⟨cH,p,q,rfl,bw,bH⟩
 obtain⟨ax,P,ck⟩:=Ji bw 10 R
 have aG:=(T3 C F P)
 exact⟨(aG.cl R),Jf R (Jn4 [.slice k d.length m,.slice none 0 0,.slice p e.length q] R)<|Jm4 ax 6 R Z32 R (bF.stp<|F.tr P) R λcV Q bI=>⟨((aG.tr Q).cl R),Jp1<|Jr1 [] (by kernel_rfl) (by kernel_rfl) R<|Jo<|Jw1 _ ⟨(λn=>ren [(9,6),(12,8),(6,9)]<|ax n),i,k,m,none,0,p,q,R,(Jz2 ((T5 j C F P Q).wk R) [(9,6),(12,8),(6,9)] R),(((bG.mx (aT _) cj R (R:7+2=9)).stp (P.tr Q)).map (ren [(9,6),(12,8),(6,9)]) R R),Ow.nil,(((bH.mx (aT _) ck R (R:10+2=12)).stp Q).map (ren [(9,6),(12,8),(6,9)]) R R),(bI.map (ren [(9,6),(12,8),(6,9)]) R R)⟩<|KM R⟩⟩
 rintro _ bc ⟨an,i,z,x,Y,aa,A,y,rfl,H,bV,bW,bX,bY⟩
 refine Jp<|Jq<|Jf3 R<|Ob h λa4 cd b8=>?_
 clear h
 refine Jt3 [4,6] (λt u a=>∃b,∃al:VV,∃ad X,u=t/\Stp [7,9,12,13] an bc b a/\Oc (zp E6 2) 27 b a 7 ad X al/\Bc b a 9 i 32 [.slice z (((⟨(⟨d,([]:VV)⟩:Arena),e⟩:Parity).Arena).Owner).length x,.slice ad al.length X,.slice A ((⟨(⟨d,([]:VV)⟩:Arena),e⟩:Parity).Prio).length y]/\a4=zw al) ?_ ?_
 refine Jv<|Ju3 [1,2,4,6] (λN t u a=>∃b s,∃O:VV,∃ae ab,u=(7,vi s)::t/\Stp [7,9,12,13] an bc b a/\Oc (zp E6 2) 27 b a 7 ae ab O/\Bc b a 9 i 32 [.slice z (((⟨(⟨d,([]:VV)⟩:Arena),e⟩:Parity).Arena).Owner).length x,.slice ae O.length ab,.slice A ((⟨(⟨d,([]:VV)⟩:Arena),e⟩:Parity).Prio).length y]/\0<=s/\zq ((p1.length:Int)-s)=N/\cntM (gY p0 p1) N s O=some a4) ⟨_,_,⟨an,0,(((⟨(⟨d,([]:VV)⟩:Arena),e⟩:Parity).Arena).Next:VV),Y,aa,R,Jo3,bW,bY,(by decide),(by simp),cd⟩,(KM R)⟩ ?_
 rintro N _ cY ⟨aA,s,O,ae,ab,rfl,G,aP,aQ,cb,aY,h⟩
 rcases N with _|N
 have aj:=h;obtain⟨cp,h⟩:=exq aj
 have E:=dcf aY
 refine Jq<|Jl3 2 R<|Js3 R U27 R R<|Jb 1 R<|Jx2 R E<|Jc1<|Jt<|Jt ?_
 cases h
 have h:=aj
 refine Jb1 ?_
 cases h
 exact Jw1 _ ⟨aA,O,ae,ab,R,G.wk R,aP,aQ,R⟩<|KM R
 obtain⟨cp,h,aj⟩:=BI h;unfold gY at h
 have E:=dct aY
 refine Jq<|Jl3 2 R<|Js3 R U27 R R<|Jb 1 R<|Jw2 R E<|Js<|Jp<|Jq<|Jv<|Jj3<|Je3 R U32 R Z30<|Je3 R U30 R Z28<|Jc3 R I28 ((ah.stp<|T4 c f H G).ld 1 R R)<|Jn 1 R<|Ob h λdh a0 h=>Jd3 R ag a0 U28 Z27 ?_
 obtain⟨cA,cQ,bL,cc⟩:=(ag.stp (T4 c f H G)).gSl a0
 refine Jc3 R I27 cc<|Ob h λdi ch h=>Jw3 R call23 (cW (J:=Mk aA) (Jn3 bL) ch) ?_
 rintro _ cs ⟨cJ,bp,bt,rfl,bz,bM⟩
 obtain⟨am,T,cl⟩:=Ji bz 10 R
 refine Tv<|Jb 1 R<|Jq<|Jl3 2 R<|Ob h λcv a1 h=>Jd3 R ai a1 U27 Z2 ?_
 have au:=ai.stp (T7 v o c f H G T)
 refine Jc3 R I2 (au.gInt a1)<|Jb 1 R<|Ob h λak h b9=>Jt3 [1,2,4,6,7] (λt u a=>∃b ac Z,u=(8,.slice ac ak.length Z)::t/\Stp [13] am cs b a/\Oc E6 2 b a 12 ac Z ak) ?_ ?_
 revert h
 cases cD:decide (0<=cv)
 refine JF λh=>Jy R<|Js ?_
 cases h
 exact Jw1 _ ⟨am,bp,bt,R,Jo3,(bM.mx (aT _) cl R (R:10+2=12))⟩<|KM R
 refine JT λh=>Jx R<|Jm3 2 R<|Ob h λcw a2 h=>Jd3 R au a2 U27 Z2<|Jc3 R I2 (au.gInt a2)<|Ji4 am 13 [cw] R Y27 aR R λbs bq c0 bg bm bO=>Tv<|Jc 1 R ?_
 cases h
 exact Jw1 _ ⟨(λn=>ren [(13,12)]<|bg n),bs,bq,R,(Jz2 (bm.wk R) [(13,12)] R),(bO.map (ren [(13,12)]) R R)⟩<|KM R
 rintro _ cZ ⟨bf,ac,Z,rfl,ao,bN⟩
 have h:=b9
 refine Jp<|Jk3<|Je3 R U32 R Z30<|Je3 R U30 R Z28 ?_
 have aS:=aQ.stp (T.tr ao)
 refine Jc3 R I28 (aS.ld 1 R R)<|Jn 1 R<|Jb4 bf (zp E6 2) 13 [12] (parts:=[(0,.tmp 54)]) (cells:=[.slice ac ak.length Z]) (xs:=([ak]:VV)) R Y28 br R (Jj4 ⟨_,_,R,bN⟩) λcy cz c1 bh ap bP=>Tv<|Ob h λaw ci h=>Jd4 bh (zp E6 2) 7 [13] R Y28 br R (aP.stp<|T3 T ao ap) bP.src (lJ R) ci R λar aq c2 aC aH bQ=>Tv<|Je3 R U32 R Z30<|Je3 R U30 R Z28<|Jz3 aC 9 (off:=1) (vc:=[.slice ar aw.length aq]) (cs':=[.slice z (((⟨(⟨d,([]:VV)⟩:Arena),e⟩:Parity).Arena).Owner).length x,.slice ar aw.length aq,.slice A ((⟨(⟨d,([]:VV)⟩:Arena),e⟩:Parity).Prio).length y]) R Z28 R (aS.stp<|ap.tr aH) R λc3 aI bR=>Tv<|Jo<|Jz<|Jp<|Jg3 R ?_
 have ce:zr .i64 (s+1)=s+1:=wr1 cb (Jn2 E) ai.len_le
 rw[ce]
 have E:=Jn2 E
 cases h
 exact Ja2 ⟨aC,s+1,aw,ar,aq,R,(T6 G T ao ap aH aI).wk R,(bQ.stp aI),bR,by omega,by omega,aj⟩ R
 rintro _ cX ⟨az,al,ad,X,rfl,S,bJ,bK,rfl⟩
 have h:=yI b8
 refine Jp<|Jj3<|Jg4 tv R (Jh4 (haE bK.cells) I32 Z32 R)<|Jm4 az 3 R Z32 R (aW.stp<|T4 c f H S) R λc4 U bS=>Tv<|Jb 1 R<|Ju<|Jb2 (l:=[.cell 4 32,.tmp 5]) results49 (bv R bS I32 Z32 R<|Jq2 R R) R ?_
 cases h
 exact⟨(λn=>ren [(6,2),(7,3),(8,4)]<|az n),z,x,ad,X,A,y,R,((aX.stp<|T7 v o c f H S U).map (ren [(6,2),(7,3),(8,4)]) R R),((bV.stp<|S.tr U).map (ren [(6,2),(7,3),(8,4)]) R R),((bJ.stp U).map (ren [(6,2),(7,3),(8,4)]) R R),((bX.stp<|S.tr U).map (ren [(6,2),(7,3),(8,4)]) R R)⟩
 refine JT λh=>Jx R<|Jj3<|Jf R (Jn4 [.slice none 0 0,.slice none 0 0,.slice none 0 0] R)<|Jm4 B 3 R Z32 R (aW.stp<|c.tr f) R λc6 bo bU=>Tv<|Jb 1 R<|Ju<|Jw<|Jb2 (l:=[.cell 4 32,.tmp 5]) results49 (bv R bU I32 Z32 R<|Jq2 R R) R ?_
 cases h
 exact⟨B,none,0,none,0,none,0,R,(aX.stp<|T5 v o c f bo),Ow.nil,Ow.nil,Ow.nil⟩
theorem rZ {N O I K M L H G k j}{p0:l7Game}{F ag}{p1:VB}{p2:Int}(U:Rd Ri J w 0 N O p0.owner) (ao:Rd Ri J w 0 I K p0.prio) (V:Rd Rs J w 0 M L p0.next) (ap:Rd Rs J w 0 H G p0.prev) (aq:Oc E6 2 J w 2 k j p0.pick) (W:Rd Rp.bool J w 0 F ag p1){r:Int×VI}(h:kE p0 p1 p2=some r):Ret prog 34 [.agg #[.slice N p0.owner.length O,.slice I p0.prio.length K,.slice M p0.next.length L,.slice H p0.prev.length G,.slice k p0.pick.length j],.slice F p1.length ag,vi p2] w (λaz d=>∃(e:Col),az=vi r.1/\Ent J w e d/\Oc E6 2 e d 2 k j r.2/\p0.pick.length=r.2.length):=by
 unfold kE at h
 refine Jp3 J func34 R ntmps34 R λX=>Jj3<|Jx3 J 3 R λaF ah v f an=>Tv<|Jb 1 R<|Jq<|Jf3 R<|Ob h λaf aw Y=>?_
 clear h
 refine Jx1 (λx d=>∃e,∃t:Int×VI,x=[]/\Stp [2] v ah e d/\Oc E6 2 e d 2 k j t.2/\p0.pick.length=t.2.length/\af=zw t) ?_ ?_
 refine Jv<|Ju3 [1,2,3] (λs B x d=>∃e,∃a:Int×VI,x=(7,vi a.1)::B/\Stp [2] v ah e d/\Oc E6 2 e d 2 k j a.2/\p0.pick.length=a.2.length/\bn (g9 p0 p1 p2) s a=some af) ⟨_,_,⟨v,((0:Int),p0.pick),R,Jo3,(aq.stp f),R,aw⟩,(KM R)⟩ ?_
 rintro s _ aP ⟨u,a,rfl,b,m,q,h⟩
 rcases s with _|s
 cases h
 obtain⟨aM,h,p⟩:=BI h;unfold g9 at h
 refine Jq<|Jl3 1 R<|Je3 R U69 R Z28 ?_
 have n:=an.stp b
 refine Jc3 R I28 (n.ld 2 R R)<|Jn 1 R<|Ob h λaA Z h=>Jd3 R V Z U28 Z27 ?_
 have o:=V.stp (f.tr b)
 obtain⟨aD,aN,aG,ar⟩:=o.gSl Z
 refine Jc3 R I27 ar<|Js3 R U27 R R<|Jb 1 R ?_
 revert h
 cases aH:decide (a.1<(aA.length:Int))
 refine JF λh=>Jy R<|Jc1<|Jt<|Jt ?_
 cases h
 have h:=p
 refine Jb1 ?_
 cases h
 exact Jw1 _ ⟨u,(a.1,a.2),R,b.wk R,m,q,R⟩ KN
 refine JT λh=>Jx R<|Js<|Jp<|Jq<|Jv<|Jj3<|Je3 R U69 R Z28<|Jc3 R I28 (n.ld 2 R R)<|Jn 1 R<|Ob h λaU aa h=>Jd3 R o aa U28 Z27 ?_
 obtain⟨aE,aO,P,au⟩:=o.gSl aa
 refine Jc3 R I27 au<|Jn 1 R<|Ob h λaV ab h=>Jd3 R P ab U27 Z2<|Jc3 R I2 (P.gInt ab)<|Jb 1 R<|Jq<|Jl3 2 R<|Ob h λaB ac h=>Jd3 R W ac U71 Z4 ?_
 have Q:=W.stp (f.tr b)
 refine Jc3 R I4 (Q.gBool ac)<|Jb 1 R ?_
 revert h
 cases aI:(!aB)
 refine JF λh=>Jy R<|Js<|Jp<|Jj3<|Je3 R U69 R Z27<|Jc3 R I27 (n.ld 4 R R)<|Jn 2 R<|Ob h λaW ax h=>Jf R (Jg2 m.rdc ax U27 Z2 R R q R)<|Ob h λA ae h=>Jk1 (J:=u) (E:=E6) 2 [] R R R R R R R R Z2 R R R R m ae λaQ C g am=>Tv<|?_
 have z:p0.pick.length=A.length:=q.trans (Ju2 ae).2.2.2.symm
 refine Jd<|Jq<|Js1 (J:=C) [0,3] none [(1,2),(2,2),(4,2),(0,0),(3,0),(5,2),(6,0),(7,1)] [] (by kernel_rfl) (by kernel_rfl) λaR c=>Jn 1 R<|Je3 R U69 R Z27<|Jn 1 R ?_
 have S:=n.stp (g.tr c)
 refine Jg R (Jh4 (haC S.cells R) I69 Z69 R)<|Jg R (Jd2 I27 R R<|hvC (S.ld 0 R R) R)<|Ob h λaX ad h=>Jd3 R U ad U27 Z2 ?_
 have T:=U.stp (T4 f b g c)
 refine Jg R (Jd2 I2 R R<|hvC (T.gInt ad) R)<|Ob h λaC ay h=>?_
 have y:=am.stp c
 have E:=(T4 f b g c)
 refine Jw3 R call54 (Ret.cast (by simp only[z,List.cons_append,List.nil_append])<|qH (J:=Mk C) (p0:=(⟨p0.owner,p0.prio,p0.next,p0.prev,A⟩:l7Game)) (Jn3 T) (Jn3<|ao.stp E) (Jn3<|o.stp<|g.tr c) (Jn3<|ap.stp E) (Jn3 y.rdc) (Jn3<|Q.stp<|g.tr c) ay) ?_
 rintro _ aS ⟨aK,rfl,ak⟩
 obtain⟨D,i,aL⟩:=Ji ak 4 R
 refine⟨(i.cl R),Jt1<|Jd ?_⟩
 revert h
 cases aJ:aC
 refine JF λh=>Jy R<|Js<|Jz<|Jp<|Jg3 R ?_
 cases h
 exact Ja2 ⟨D,(((zr .i64<|a.1+1):Int),A),R,(T4 b g c i).wk R,(y.stp i),z,p⟩ R
 refine JT λh=>Jx R<|Jf3 R<|Ju<|Ja1<|Jw<|Jw ?_
 cases h
 obtain rfl:=zt p
 have h:=yL Y
 refine Ja1<|Jr2<|Jw<|Jb2 (l:=[.tmp 6]) results34 (Jq2 R R) R ?_
 cases h
 exact⟨D,R,(X.stp<|T5 f b g c i),(y.stp i),z⟩
 refine JT λh=>Jx R<|Jc1<|Jt<|Jb1<|Jp<|Jg3 R ?_
 cases h
 exact Ja2 ⟨u,(((zr .i64<|a.1+1):Int),a.2),R,b.wk R,m,q,p⟩ R
 rintro _ aT ⟨ai,t,rfl,aj,al,av,rfl⟩
 have h:=yI Y
 refine Jp<|Jf3 R<|Ju<|Jb2 (l:=[.tmp 6]) results34 (Jq2 R R) R ?_
 cases h
 exact⟨ai,R,(X.stp<|f.tr aj),al,av⟩
theorem rm {v p s u q t}{p0:Parity}(ak:Rd Ri J w 0 v p p0.Arena.Owner) (al:Rd Rs J w 0 s u p0.Arena.Next) (am:Rd Ri J w 0 q t p0.Prio){r:Answer}(h:js p0=some r):Ret prog 115 [.agg #[.slice v p0.Arena.Owner.length p,.slice s p0.Arena.Next.length u,.slice q p0.Prio.length t]] w (λav m=>∃(n:Col) (K:Option Addr) (M:Nat) (L:Option Addr) (N:Nat),av= .agg #[.slice K r.Won.length M,.slice L r.Plan.length N]/\Ent J w n m/\Oc E6 2 n m 2 K M r.Won/\Oc E6 2 n m 3 L N r.Plan):=by
 unfold js at h
 refine Jp3 J func115 R ntmps115 R λH=>Jj3<|Jx3 J 2 R λaB aJ O f af=>Tv<|Jy3 O 3 R X36 R λaC aP S e F=>Tv<|Jd<|Jq<|Jj3 ?_
 have G:=af.stp e
 refine Jg4 tv R (Jh4 (haE G.cells) I32 Z32 R)<|Ob h λaw aq h=>?_
 have x:=ak.stp (f.tr e)
 have y:=al.stp (f.tr e)
 have z:=am.stp (f.tr e)
 refine Jw3 R call76 (gw (J:=Mk S) (p0:=p0) (Jn3 x) (Jn3 y) (Jn3 z) aq) ?_
 rintro _ aK ⟨aE,rfl,Z⟩
 obtain⟨g,c,aI⟩:=Ji Z 4 R
 refine Tv<|Jb 1 R ?_
 revert h
 cases aD:(!aw)
 refine JF λh=>Jy R<|Js<|Jp<|Jq<|Js1 (J:=g) [2] none [(1,2),(0,0),(2,0),(4,0),(3,1),(5,1),(6,1),(7,1)] [] (by kernel_rfl) (by kernel_rfl) λaM d=>Je3 R U32 R Z30 ?_
 have k:=G.stp (c.tr d)
 refine Jg R (Jh4 (haC k.cells R) I32 Z32 R)<|Jg R (Jh4 (haC (k.lds 0 2 R) R) I30 Z30 R)<|Jg R (Jh4 (haC k.cells R) I32 Z32 R)<|Ob h λaS an h=>?_
 have A:=x.stp (c.tr d)
 have B:=y.stp (c.tr d)
 refine Jw3 R call170 (eT (J:=Mk g) (p0:=p0.Arena) (Jn3 A) (Jn3 B) an) ?_
 rintro _ aN ⟨aF,aA,ax,rfl,aa,ae⟩
 obtain⟨P,a,ar⟩:=Ji aa 6 R
 refine⟨(a.cl R),Ob h λaU ao h=>?_⟩
 have C:=A.stp a
 have D:=B.stp a
 have E:=z.stp (T3 c d a)
 refine Jw3 R call90 (mf (J:=Mk P) (p0:=p0) (Jn3 C) (Jn3 D) (Jn3 E) ao) ?_
 rintro _ aO ⟨aG,ay,az,rfl,ab,ag⟩
 obtain⟨Q,b,au⟩:=Ji ab 9 R
 refine⟨((a.tr b).cl R),Ob h λaV ap h=>Jw3 R call169 (pi (J:=Mk Q) (p0:=p0) (Jn3<|C.stp b) (Jn3<|D.stp b) (Jn3<|E.stp b) (Jn3 ((ae.mx (aT _) ar R (R:6+2=8)).stp b).rdc) (Jn3 (ag.mx (aT _) au R (R:9+2=11)).rdc) ap) ?_⟩
 rintro _ aQ ⟨aH,W,V,U,X,rfl,ac,ah,ai⟩
 obtain⟨o,i,I⟩:=Ji ac 12 R
 refine⟨((T3 a b i).cl R),Jm4 o 3 R Z36 R (F.stp<|T5 c d a b i) R λaR j aj=>⟨((T4 a b i j).cl R),Jt1<|Jd<|Ju<|Jb2 (l:=[.cell 2 36]) results115 (bv R aj I36 Z36 R R) R ?_⟩⟩
 cases h
 exact⟨(λY=>ren [(14,2),(15,3)]<|o Y),W,V,U,X,R,((H.stp<|T8 f e c d a b i j).map (ren [(14,2),(15,3)]) R R),(((ah.mx (aT _) I R (R:12+2=14)).stp j).map (ren [(14,2),(15,3)]) R R),(((ai.mx (aT _) I R (R:12+3=15)).stp j).map (ren [(14,2),(15,3)]) R R)⟩
 refine JT λh=>Jx R<|Jj3<|Jf R (Jn4 [.slice none 0 0,.slice none 0 0] R)<|Jm4 g 3 R Z36 R (F.stp c) R λaL T ad=>Tv<|Jd<|Ju<|Jw<|Jb2 (l:=[.cell 2 36]) results115 (bv R ad I36 Z36 R R) R ?_
 cases h
 exact⟨g,none,0,none,0,R,(H.stp<|T4 f e c T),Ow.nil,Ow.nil⟩
theorem pd {M L O Q N P}{p0:Parity}{K ag}{p1:VV}{p2:Int}(E:Rd Ri J w 0 M L p0.Arena.Owner) (V:Rd Rs J w 0 O Q p0.Arena.Next) (aV:Rd Ri J w 0 N P p0.Prio) (W:Rd Rs J w 0 K ag p1){r:VI}(h:dL p0 p1 p2=some r):Ret prog 251 [.agg #[.slice M p0.Arena.Owner.length L,.slice O p0.Arena.Next.length Q,.slice N p0.Prio.length P],.slice K p1.length ag,vi p2] w (λa6 a=>∃(b:Col) (ae:Option Addr) (af:Nat),a6= .slice ae r.length af/\Ent J w b a/\Rd Ri b a 0 ae af r):=by
 unfold dL at h
 refine Jp3 J func251 R ntmps251 R λX=>Jj3<|Jx3 J 2 R λbh bq al f aO=>Tv<|Jb 1 R<|Jj3<|Jc4 al (zp E6 2) 3 R Y28 br R λaC aH ai x d aU=>Tv<|Jb 1 R<|Jq<|Jj3<|Je3 R U32 R Z30<|Je3 R U30 R Z28 ?_
 have D:=aO.stp d
 refine Jc3 R I28 (D.ld 1 R R)<|Jn 1 R<|Ob h λaj Z h=>Jd3 R V Z U28 Z27 ?_
 have S:=V.stp (f.tr d)
 obtain⟨be,bo,C,aX⟩:=S.gSl Z
 refine Jc3 R I27 aX<|Js3 R U27 R R<|Jb 1 R<|Ob h λad aZ aW=>?_
 clear h
 refine Jt3 [2,3] (λu y a=>∃b,∃t:VV,∃A z,y=(7,.slice A t.length z)::u/\Stp [3,6,7] x ai b a/\Oc (zp E6 2) 27 b a 3 A z t/\ad=zw t) ?_ ?_
 refine Jv<|Ju3 [1,2,3,16,17] (λj u y a=>∃b g,∃k:VV,∃p o,y=(7,.slice p k.length o)::(18,vi g)::u/\Stp [3,6,7] x ai b a/\Oc (zp E6 2) 27 b a 3 p o k/\0<=g/\zq ((aj.length:Int)-g)=j/\cntM (ej p0 p1 p2 aj) j g k=some ad) ⟨_,_,⟨x,0,([]:VV),aC,aH,R,Jo3,aU,(by decide),(by simp),aZ⟩,(KM R)⟩ ?_
 rintro j _ bs ⟨v,g,k,p,o,rfl,c,U,Y,q,h⟩
 rcases j with _|j
 have s:=h;obtain⟨a5,h⟩:=exq s
 have F:=dcf q
 refine Jf3 R<|Jq<|Jx2 R F<|Jc1<|Jt<|Jt ?_
 cases h
 have h:=s
 refine Jb1 ?_
 cases h
 exact Jw1 _ ⟨v,k,p,o,R,c.wk R,U,R⟩<|KM R
 obtain⟨a5,h,s⟩:=BI h;unfold ej at h
 have F:=dct q
 refine Jf3 R<|Jq<|Jw2 R F<|Js<|Jp<|Jq<|Jv<|Jj3<|Ob h λbA aa h=>Jd3 R C aa U27 Z2<|Jc3 R I2 ((C.stp c).gInt aa)<|Jb 1 R<|Js1 (J:=v) [0,2] none [(0,2),(2,2),(3,2),(4,2),(5,2),(1,0),(6,0),(7,1),(8,1),(9,1),(10,2)] [] (by kernel_rfl) (by kernel_rfl) λbt e=>Jn 4 R<|Ob h λbB ab h=>Jd3 R W ab U28 Z27<|Jg R (Jh4 (haC (D.stp<|c.tr e).cells R) I32 Z32 R) ?_
 obtain⟨bf,bp,aM,aY⟩:=(W.stp (T4 f d c e)).gSl ab
 have H:=(T4 f d c e)
 refine Jg R (Jd2 I27 R R<|hvC aY R)<|Ob h λak a0 h=>Jw3 R call273 (lZ (J:=Mk v) (p0:=p0) (Jn3<|E.stp H) (Jn3<|S.stp<|c.tr e) (Jn3<|aV.stp H) (Jn3 aM) a0) ?_
 rintro _ bu ⟨bj,aG,aF,rfl,aJ,aN⟩
 obtain⟨am,i,a4⟩:=Ji aJ 4 R
 refine⟨(i.cl R),Jb4 am (zp E6 2) 7 [6] (parts:=[(0,.tmp 29)]) (cells:=[.slice aG ak.length aF]) (xs:=([ak]:VV)) R Y28 br R (Jj4 ⟨_,_,R,(aN.mx (aT _) a4 R (R:4+2=6))⟩) λbg bd bv an n aP=>⟨((i.tr n).cl R),Ob h λa7 a1 h=>Jd4 an (zp E6 2) 3 [7] R Y28 br R (U.stp<|T3 e i n) aP.src (lJ R) a1 R λaI aE bw ao I aQ=>⟨((T3 i n I).cl R),Jn 1 R<|Jt1<|Jo<|Jz<|Jp<|Jg3 R<|wr2 Y q C.len_le ▸ ?_⟩⟩⟩
 cases h
 exact Ja2 ⟨ao,g+1,a7,aI,aE,R,(T5 c e i n I).wk R,aQ,nxz Y,nxm q,s⟩ R
 rintro _ ah ⟨G,t,A,z,rfl,m,T,rfl⟩
 have h:=yI aW
 refine Jp<|Jq<|Jj3<|Je3 R U32 R Z30<|Je3 R U30 R Z27<|Jc3 R I27 ((D.stp m).ld 0 R R)<|Jn 1 R<|Ob h λa8 ac h=>Jd3 R E ac U27 Z2<|Jc3 R I2 ((E.stp<|T3 f d m).gInt ac)<|Jb 1 R ?_
 revert h
 cases bi:(a8==0)
 refine JF λh=>Jy R<|Js<|Jp<|Jl3 1 R ?_
 obtain⟨ar,ax,bb⟩:=b9 G ah 3
 refine Ob h λbD a3 h=>Jw3 R call275 (bM (J:=λB=>mp [] 1<|ar B) (Jm2 (Sl.st bb T.rdc) (mp [] 1) R R) a3) ?_
 rintro _ bz ⟨bl,aB,aA,rfl,aL,aS⟩
 obtain⟨au,ay,bn,bc⟩:=Jj aL 4 R
 refine Tv<|Jb 1 R<|Ju<|Jb2 (l:=[.tmp 6]) results251 (Jq2 R R) R ?_
 cases h
 exact⟨au,aB,aA,R,(X.stp<|T5 f d m ax ay),(aS.mx bc)⟩
 refine JT λh=>Jx R<|Jl3 1 R ?_
 obtain⟨ap,av,a9⟩:=b9 G ah 3
 refine Ob h λbC a2 h=>Jw3 R call274 (bN (J:=λB=>mp [] 1<|ap B) (Jm2 (Sl.st a9 T.rdc) (mp [] 1) R R) a2) ?_
 rintro _ bx ⟨bk,az,aD,rfl,aK,aR⟩
 obtain⟨aq,aw,bm,ba⟩:=Jj aK 4 R
 refine Tv<|Jb 1 R<|Ju<|Jw<|Jb2 (l:=[.tmp 6]) results251 (Jq2 R R) R ?_
 cases h
 exact⟨aq,az,aD,R,(X.stp<|T5 f d m av aw),(aR.mx ba)⟩
theorem lc {M L O Q N P}{p0:Parity}{K ag}{p1:VV}{p2:Int}(E:Rd Ri J w 0 M L p0.Arena.Owner) (V:Rd Rs J w 0 O Q p0.Arena.Next) (aV:Rd Ri J w 0 N P p0.Prio) (W:Rd Rs J w 1 K ag p1){r:VI}(h:dY p0 p1 p2=some r):Ret prog 251 [.agg #[.slice M p0.Arena.Owner.length L,.slice O p0.Arena.Next.length Q,.slice N p0.Prio.length P],.slice K p1.length ag,vi p2] w (λa6 a=>∃(b:Col) (ae:Option Addr) (af:Nat),a6= .slice ae r.length af/\Ent J w b a/\Rd Ri b a 0 ae af r):=by
 unfold dY at h
 refine Jp3 J func251 R ntmps251 R λX=>Jj3<|Jx3 J 2 R λbh bq al f aO=>Tv<|Jb 1 R<|Jj3<|Jc4 al (zp E6 2) 3 R Y28 br R λaC aH ai x d aU=>Tv<|Jb 1 R<|Jq<|Jj3<|Je3 R U32 R Z30<|Je3 R U30 R Z28 ?_
 have D:=aO.stp d
 refine Jc3 R I28 (D.ld 1 R R)<|Jn 1 R<|Ob h λaj Z h=>Jd3 R V Z U28 Z27 ?_
 have S:=V.stp (f.tr d)
 obtain⟨be,bo,C,aX⟩:=S.gSl Z
 refine Jc3 R I27 aX<|Js3 R U27 R R<|Jb 1 R<|Ob h λad aZ aW=>?_
 clear h
 refine Jt3 [2,3] (λu y a=>∃b,∃t:VV,∃A z,y=(7,.slice A t.length z)::u/\Stp [3,6,7] x ai b a/\Oc (zp E6 2) 27 b a 3 A z t/\ad=zw t) ?_ ?_
 refine Jv<|Ju3 [1,2,3,16,17] (λj u y a=>∃b g,∃k:VV,∃p o,y=(7,.slice p k.length o)::(18,vi g)::u/\Stp [3,6,7] x ai b a/\Oc (zp E6 2) 27 b a 3 p o k/\0<=g/\zq ((aj.length:Int)-g)=j/\cntM (ee p0 p1 p2 aj) j g k=some ad) ⟨_,_,⟨x,0,([]:VV),aC,aH,R,Jo3,aU,(by decide),(by simp),aZ⟩,(KM R)⟩ ?_
 rintro j _ bs ⟨v,g,k,p,o,rfl,c,U,Y,q,h⟩
 rcases j with _|j
 have s:=h;obtain⟨a5,h⟩:=exq s
 have F:=dcf q
 refine Jf3 R<|Jq<|Jx2 R F<|Jc1<|Jt<|Jt ?_
 cases h
 have h:=s
 refine Jb1 ?_
 cases h
 exact Jw1 _ ⟨v,k,p,o,R,c.wk R,U,R⟩<|KM R
 obtain⟨a5,h,s⟩:=BI h;unfold ee at h
 have F:=dct q
 refine Jf3 R<|Jq<|Jw2 R F<|Js<|Jp<|Jq<|Jv<|Jj3<|Ob h λbA aa h=>Jd3 R C aa U27 Z2<|Jc3 R I2 ((C.stp c).gInt aa)<|Jb 1 R<|Js1 (J:=v) [0,1,2] none [(0,2),(2,2),(3,2),(4,2),(5,2),(1,0),(6,0),(7,1),(8,1),(9,1),(10,2)] [] (by kernel_rfl) (by kernel_rfl) λbt e=>Jn 4 R<|Ob h λbB ab h=>Jd3 R W ab U28 Z27<|Jg R (Jh4 (haC (D.stp<|c.tr e).cells R) I32 Z32 R) ?_
 obtain⟨bf,bp,aM,aY⟩:=(W.stp (T4 f d c e)).gSl ab
 have H:=(T4 f d c e)
 refine Jg R (Jd2 I27 R R<|hvC aY R)<|Ob h λak a0 h=>Jw3 R call273 (lZ (J:=Mk v) (p0:=p0) (Jn3<|E.stp H) (Jn3<|S.stp<|c.tr e) (Jn3<|aV.stp H) (Jn3 aM) a0) ?_
 rintro _ bu ⟨bj,aG,aF,rfl,aJ,aN⟩
 obtain⟨am,i,a4⟩:=Ji aJ 4 R
 refine⟨(i.cl R),Jb4 am (zp E6 2) 7 [6] (parts:=[(0,.tmp 29)]) (cells:=[.slice aG ak.length aF]) (xs:=([ak]:VV)) R Y28 br R (Jj4 ⟨_,_,R,(aN.mx (aT _) a4 R (R:4+2=6))⟩) λbg bd bv an n aP=>⟨((i.tr n).cl R),Ob h λa7 a1 h=>Jd4 an (zp E6 2) 3 [7] R Y28 br R (U.stp<|T3 e i n) aP.src (lJ R) a1 R λaI aE bw ao I aQ=>⟨((T3 i n I).cl R),Jn 1 R<|Jt1<|Jo<|Jz<|Jp<|Jg3 R<|wr2 Y q C.len_le ▸ ?_⟩⟩⟩
 cases h
 exact Ja2 ⟨ao,g+1,a7,aI,aE,R,(T5 c e i n I).wk R,aQ,nxz Y,nxm q,s⟩ R
 rintro _ ah ⟨G,t,A,z,rfl,m,T,rfl⟩
 have h:=yI aW
 refine Jp<|Jq<|Jj3<|Je3 R U32 R Z30<|Je3 R U30 R Z27<|Jc3 R I27 ((D.stp m).ld 0 R R)<|Jn 1 R<|Ob h λa8 ac h=>Jd3 R E ac U27 Z2<|Jc3 R I2 ((E.stp<|T3 f d m).gInt ac)<|Jb 1 R ?_
 revert h
 cases bi:(a8==0)
 refine JF λh=>Jy R<|Js<|Jp<|Jl3 1 R ?_
 obtain⟨ar,ax,bb⟩:=b9 G ah 3
 refine Ob h λbD a3 h=>Jw3 R call275 (bM (J:=λB=>mp [] 1<|ar B) (Jm2 (Sl.st bb T.rdc) (mp [] 1) R R) a3) ?_
 rintro _ bz ⟨bl,aB,aA,rfl,aL,aS⟩
 obtain⟨au,ay,bn,bc⟩:=Jj aL 4 R
 refine Tv<|Jb 1 R<|Ju<|Jb2 (l:=[.tmp 6]) results251 (Jq2 R R) R ?_
 cases h
 exact⟨au,aB,aA,R,(X.stp<|T5 f d m ax ay),(aS.mx bc)⟩
 refine JT λh=>Jx R<|Jl3 1 R ?_
 obtain⟨ap,av,a9⟩:=b9 G ah 3
 refine Ob h λbC a2 h=>Jw3 R call274 (bN (J:=λB=>mp [] 1<|ap B) (Jm2 (Sl.st a9 T.rdc) (mp [] 1) R R) a2) ?_
 rintro _ bx ⟨bk,az,aD,rfl,aK,aR⟩
 obtain⟨aq,aw,bm,ba⟩:=Jj aK 4 R
 refine Tv<|Jb 1 R<|Ju<|Jw<|Jb2 (l:=[.tmp 6]) results251 (Jq2 R R) R ?_
 cases h
 exact⟨aq,az,aD,R,(X.stp<|T5 f d m av aw),(aR.mx ba)⟩
theorem i8 {B:asker->VI->Int->Int->Int->Int->Option (VI×(List (query×VI)))}(ai:∀{w:World}{J:Col}{m s p q n o c}{p0:asker}{f k}{p1:VI}{p2:Int}{g:Int}{i:Int}{j:Int}{u}(M:Rd Ri J w 0 m s p0.game.Arena.Owner) (N:Rd Rs J w 0 p q p0.game.Arena.Next) (O:Rd Ri J w 0 n o p0.game.Prio) (P:Mz kwquery kvquery J w 2 c p0.known) (Q:Rd Ri J w 0 f k p1) (S:Bc J w 0 u 292 [.slice m p0.game.Arena.Owner.length s,.slice p p0.game.Arena.Next.length q,.slice n p0.game.Prio.length o,.map (some c)]){r:VI×(List (query×VI))}(h:B p0 p1 p2 g i j=some r),Ret prog 216 [.pointer (some ⟨u,0,none⟩),.slice f p1.length k,vi p2,vi g,vi i,vi j] w (λC a=>∃(b:Col) (v:Option Addr) (x:Nat),C= .slice v r.1.length x/\Ent J w b a/\Rd Ri b a 0 v x r.1/\Mz kwquery kvquery b a 2 c r.2)){w:World}{J:Col}{m s p q n o c}{p0:asker}{f k}{p1:VI}{p2:Int}{g:Int}{i:Int}{j:Int}{u}(M:Rd Ri J w 0 m s p0.game.Arena.Owner) (N:Rd Rs J w 0 p q p0.game.Arena.Next) (O:Rd Ri J w 0 n o p0.game.Prio) (P:Mz kwquery kvquery J w 2 c p0.known) (Q:Rd Ri J w 0 f k p1) (S:Bc J w 0 u 292 [.slice m p0.game.Arena.Owner.length s,.slice p p0.game.Arena.Next.length q,.slice n p0.game.Prio.length o,.map (some c)]){r:VI×(List (query×VI))}(h:cK B p0 p1 p2 g i j=some r):Ret prog 252 [.pointer (some ⟨u,0,none⟩),.slice f p1.length k,vi p2,vi g,vi i,vi j] w (λC a=>∃(b:Col) (v:Option Addr) (x:Nat),C= .slice v r.1.length x/\Ent J w b a/\Oc E6 2 b a 3 v x r.1/\Mz kwquery kvquery b a 2 c r.2):=by
 unfold cK at h
 refine Jp3 J func252 R ntmps252 R λae=>Jf3 R<|Ob h λaj ag af=>?_
 clear h
 refine Jv<|Ju3 [0,2,3,4,5] (λy V Y a=>∃(b:Col) (d:VI×(List<|query×VI)) (z:Option Addr) (A:Nat),Y=(1,.slice z d.1.length A)::V/\Stp [2,5,6] J w b a/\Rd Ri b a 0 z A d.1/\Mz kwquery kvquery b a 2 c d.2/\bn (cD B p0 p2 g i j) y d=some aj) ⟨_,_,⟨J,(p1,p0.known),f,k,R,Jo3,Q,P,ag⟩,(KM R)⟩ ?_
 rintro y _ aq ⟨X,d,z,A,rfl,e,ac,ad,h⟩
 rcases y with _|y
 cases h
 obtain⟨ap,h,T⟩:=BI h;unfold cD at h
 refine Jv<|Jl3 6 R<|Ob h λD ah h=>Jw3 R call253 (jt ai (J:=λt=>mp [(2,2)] 1<|X t) (p0:=(⟨p0.game,d.2⟩:asker)) (Jm2 (M.stp e) (mp [(2,2)] 1) R R) (Jm2 (N.stp e) (mp [(2,2)] 1) R R) (Jm2 (O.stp e) (mp [(2,2)] 1) R R) (ad.map (mp [(2,2)] 1) R R) (Jm2 ac (mp [(2,2)] 1) R R) ((S.stp e).map (mp [(2,2)] 1) R R) ah) ?_
 rintro _ ak ⟨ao,H,I,rfl,Z,aa,ab⟩
 obtain⟨E,F,U,al⟩:=Jj Z 3 R
 refine Tv<|?_
 have K:=aa.mx (aT _) U R (R:3+3=6)
 have L:=ab.mxz al U R (R:3+2=5)
 refine Jb 1 R<|Jq<|Jl3 1 R<|Js3 R U27 R R<|Jn 1 R<|Js3 R U27 R R<|Jb 1 R ?_
 revert h
 cases an:((D.1.length:Int)==(d.1.length:Int))
 refine JF λh=>Jy R<|Js<|Jp<|Jg3 R<|Jz ?_
 obtain⟨W,G,am⟩:=b9 E ak 6
 cases h
 exact Ja2 ⟨(λt=>ren [(5,2)]<|W t),(D.1,D.2),H,I,R,(Jz2 ((T3 e F G).wk R) [(5,2)] R),((Sl.st am K.rdc).map (ren [(5,2)]) R R),((L.stp G).map (ren [(5,2)]) R R),T⟩ R
 refine JT λh=>Jx R<|Jf3 R<|Ju<|Jw<|Ja1<|Jw ?_
 cases h
 obtain rfl:=zt T
 have h:=yL af
 refine Ja1<|Jb2 (l:=[.tmp 12]) results252 (Jq2 R R) R ?_
 cases h
 exact⟨(λt=>ren [(6,3),(5,2)]<|E t),H,I,R,((ae.stp<|e.tr F).map (ren [(6,3),(5,2)]) R R),(K.map (ren [(6,3),(5,2)]) R R),(L.map (ren [(6,3),(5,2)]) R R)⟩
theorem pc {u o q t p s}{p0:Parity}(V:Rd Ri J w 0 u o p0.Arena.Owner) (W:Rd Rs J w 0 q t p0.Arena.Next) (X:Rd Ri J w 0 p s p0.Prio){r:VI}(h:jQ p0=some r):Ret prog 218 [.agg #[.slice u p0.Arena.Owner.length o,.slice q p0.Arena.Next.length t,.slice p p0.Prio.length s]] w (Pvs E6 2 J w r):=by
 unfold jQ at h
 refine Jp3 J func218 R ntmps218 R λY=>Jj3<|Jx3 J 2 R λal au G c z=>Tv<|Jb 1 R<|Jj3<|Je3 R U32 R Z30<|Jg4 tv R (Jh4 (haE<|z.lds 0 2 R) I30 Z30 R)<|Ob h λak ad h=>?_
 have A:=V.stp c
 have B:=W.stp c
 refine Jw3 R call257 (n7 (J:=Mk G) (p0:=p0.Arena) (Jn3 A) (Jn3 B) ad) ?_
 rintro _ ah ⟨ap,N,M,rfl,S,T⟩
 obtain⟨m,b,ae⟩:=Ji S 3 R
 refine Tv<|Jb 1 R<|Ob h λag aa Z=>?_
 clear h
 refine Jv<|Ju3 [1] (λg F K D=>∃E,∃i:VI,∃e f,K=(3,.slice e i.length f)::F/\Stp [8] m ah E D/\Oc E6 2 E D 5 e f i/\bn (dt p0) g i=some ag) ⟨_,_,⟨m,ak,N,M,R,Jo3,(T.mx (aT _) ae R (R:3+2=5)),aa⟩,(KM R)⟩ ?_
 rintro g _ av ⟨H,i,e,f,rfl,a,v,h⟩
 rcases g with _|g
 cases h
 obtain⟨ar,h,C⟩:=BI h;unfold dt at h
 refine Jv<|Jj3<|Jg4 tv R (Jh4 (haE (z.stp<|b.tr a).cells) I32 Z32 R)<|Jn 1 R<|Ob h λai ab h=>Jw3 R call258 (nu (J:=Mk H) (p0:=p0) (Jn3<|A.stp<|b.tr a) (Jn3<|B.stp<|b.tr a) (Jn3<|X.stp<|T3 c b a) (Jn3 v.rdc) ab) ?_
 rintro _ aw ⟨an,O,L,rfl,P,U⟩
 obtain⟨I,j,af⟩:=Ji P 6 R
 refine Tv<|?_
 have x:=U.mx (aT _) af R (R:6+2=8)
 refine Jb 1 R<|Jq<|Jl3 2 R<|Ob h λaj ac h=>?_
 have y:=v.stp j
 refine Jw3 R call128 (fb (J:=Mk I) (Jn3 x.rdc) (Jn3 y.rdc) ac) ?_
 rintro _ ax ⟨ao,rfl,Q⟩
 obtain⟨n,d,aq⟩:=Ji Q 9 R
 refine Tv<|Jd ?_
 revert h
 cases am:aj
 refine JF λh=>Jy R<|Js<|Jp<|Jg3 R<|Jz ?_
 cases h
 exact Ja2 ⟨(λk=>ren [(8,5)]<|n k),ai,O,L,R,(Jz2 ((T3 a j d).wk R) [(8,5)] R),((x.stp d).map (ren [(8,5)]) R R),C⟩ R
 refine JT λh=>Jx R<|Jf3 R<|Ju<|Jw<|Ja1<|Jw ?_
 cases h
 obtain rfl:=zt C
 have h:=yL Z
 refine Ja1<|Jb2 (l:=[.tmp 2]) results218 (Jq2 R R) R ?_
 cases h
 exact⟨(λk=>ren [(5,2)]<|n k),e,f,R,((Y.stp<|T5 c b a j d).map (ren [(5,2)]) R R),((y.stp d).map (ren [(5,2)]) R R)⟩
theorem ru {ao ah aj an ai ak}{p0:Parity}{al ap aq am}{p1:Stage}(be:Rd Ri J w 0 ao ah p0.Arena.Owner) (bf:Rd Rs J w 0 aj an p0.Arena.Next) (bg:Rd Ri J w 0 ai ak p0.Prio) (bh:Rd Ri J w 0 al ap p1.Won) (bi:Rd Ri J w 0 aq am p1.Region){r:Bool}(h:kn p0 p1=some r):Ret prog 281 [.agg #[.slice ao p0.Arena.Owner.length ah,.slice aj p0.Arena.Next.length an,.slice ai p0.Prio.length ak],.agg #[.slice al p1.Won.length ap,.slice aq p1.Region.length am,vi p1.At]] w (Pvb J w r):=by
 unfold kn at h
 refine Jp3 J func281 R ntmps281 R λS=>Jj3<|Jx3 J 2 R λbR b6 aZ m ba=>Tv<|Jx3 aZ 3 R λbS ce ab k bd=>Tv<|Jb 1 R<|Jq<|Js1 (J:=ab) [2,3] none [(0,2),(1,0),(2,0),(3,0),(4,1),(5,1),(6,2)] [] (by kernel_rfl) (by kernel_rfl) λb7 j=>Je3 R U32 R Z30 ?_
 have M:=ba.stp (k.tr j)
 refine Jg R (Jh4 (haC (M.lds 0 2 R) R) I30 Z30 R)<|Jg R (Jh4 (haC M.cells R) I32 Z32 R) ?_
 have ar:=bd.stp j
 refine Jg R (Jh4 (haC ar.cells R) I261 Z261 R)<|Ob h λci bq h=>?_
 have au:=be.stp (T3 m k j)
 have av:=bf.stp (T3 m k j)
 have aw:=bh.stp (T3 m k j)
 have ax:=bi.stp (T3 m k j)
 refine Jw3 R call280 (jj (J:=Mk ab) (p0:=p0) (p1:=p1) (Jn3 au) (Jn3 av) (Jn3<|bg.stp<|T3 m k j) (Jn3 aw) (Jn3 ax) bq) ?_
 rintro _ ca ⟨b1,bP,bN,rfl,a4,a8⟩
 obtain⟨a0,b,bu⟩:=Ji a4 4 R
 refine⟨(b.cl R),Ob h λX br h=>?_⟩
 have ay:=au.stp b
 have az:=av.stp b
 refine Jw3 R call189 (gN (J:=Mk a0) (p0:=p0.Arena) (Jn3 ay) (Jn3 az) (Jn3 (a8.mx (aT _) bu R (R:4+2=6)).rdc) br) ?_
 rintro _ cb ⟨b2,bL,bK,rfl,a5,a9⟩
 obtain⟨aa,f,bv⟩:=Ji a5 7 R
 refine⟨((b.tr f).cl R),?_⟩
 have N:=a9.mx bU bv R (R:7+2=9)
 refine Jn 1 R<|Jt1<|Jd<|Jq<|Js1 (J:=aa) [2,3] none [(0,2),(3,2),(1,0),(2,0),(4,0),(5,1),(6,1),(7,2)] [] (by kernel_rfl) (by kernel_rfl) λcc g=>Je3 R U32 R Z30<|Je3 R U261 R Z2 ?_
 have aA:=M.stp (T3 b f g)
 refine Jg R (Jh4 (haC (aA.lds 0 2 R) R) I30 Z30 R) ?_
 have H:=ar.stp (T3 b f g)
 refine Jg R (Jh4 (haC H.cells R) I261 Z261 R)<|Jg R (Jd2 I2 R R<|hvC (H.ld 2 R R) R)<|Ob h λcj bs h=>Jw3 R call282 (fo (J:=Mk aa) (p0:=p1) (Jn3<|aw.stp<|T3 b f g) (Jn3<|ax.stp<|T3 b f g) bs) ?_
 rintro _ cd ⟨b3,bM,bI,rfl,a6,bb⟩
 obtain⟨a1,c,bw⟩:=Ji a6 10 R
 refine⟨(c.cl R),Ob h λaW bt h=>?_⟩
 have D:=ay.stp (T3 f g c)
 have O:=az.stp (T3 f g c)
 refine Jw3 R call189 (gN (J:=Mk a1) (p0:=p0.Arena) (Jn3 D) (Jn3 O) (Jn3 (bb.mx (aT _) bw R (R:10+2=12)).rdc) bt) ?_
 rintro _ aU ⟨b4,bJ,bO,rfl,a7,bc⟩
 obtain⟨L,d,bx⟩:=Ji a7 13 R
 refine⟨((c.tr d).cl R),?_⟩
 have aB:=bc.mx bU bx R (R:13+2=15)
 refine Jn 1 R<|Jt1<|Jd<|Jq<|Jl3 1 R<|Js3 R U71 R R<|Jb 1 R ?_
 have aD:=N.len_le
 refine Ob h λaR bo T=>?_
 clear h
 refine Jx1 (λo t=>∃u,o=[]/\Stp [] L aU u t/\aR=zw ()) ?_ ?_
 refine Jv<|Ju3 [2,3,5,6,25,26] (λe y o t=>∃u n,o=(27,vi n)::y/\Stp [] L aU u t/\0<=n/\zq ((X.length:Int)-n)=e/\cntM (gU p0 p1 X aW) e n ()=some aR) ⟨_,_,⟨L,0,R,Jo3,(by decide),(by simp),bo⟩,(KM R)⟩ ?_
 rintro e _ aV ⟨z,n,rfl,a,K,v,h⟩
 rcases e with _|e
 have s:=h;obtain⟨bz,h⟩:=exq s
 have U:=dcf v
 refine Jf3 R<|Jq<|Jx2 R U<|Jc1<|Jt<|Jt ?_
 cases h
 have h:=s
 refine Jb1 ?_
 cases h
 exact Jw1 _ ⟨z,R,a.wk R,R⟩ KN
 obtain⟨bz,h,s⟩:=BI h;unfold gU at h
 have U:=dct v
 refine Jf3 R<|Jq<|Jw2 R U<|Js<|Jp<|Jq<|Jv<|Jl3 1 R<|Ob h λbF aF h=>Jd3 R N.rdc aF U71 Z4 ?_
 have E:=N.stp (T4 g c d a)
 refine Jc3 R I4 (E.rdc.gBool aF)<|Jb 2 R<|Jq<|Jf3 R ?_
 revert h
 cases bZ:(!bF)
 refine JF λh=>Jy R<|Js<|Jp<|Jf3 R<|Jq<|Jj3<|Je3 R U32 R Z30<|Je3 R U30 R Z28 ?_
 have P:=aA.stp (T3 c d a)
 refine Jc3 R I28 (P.ld 1 R R)<|Jn 1 R<|Ob h λaX aG h=>Jd3 R O aG U28 Z27 ?_
 obtain⟨bQ,b5,Q,bn⟩:=(O.stp (d.tr a)).gSl aG
 refine Jc3 R I27 bn<|Js3 R U27 R R<|Jb 1 R<|Ob h λaS bp aC=>?_
 clear h
 refine Jt3 [2,3,5,6,7,25,26,27] (λy o t=>∃u,∃W:Bool,o=(9,.bool W)::y/\Stp [] z aV u t/\aS=zw W) ?_ ?_
 refine Jv<|Ju3 [2,3,5,6,7,25,26,27,39,40] (λe y o t=>∃u x,∃G:Bool,o=(9,.bool G)::(41,vi x)::y/\Stp [] z aV u t/\0<=x/\zq ((aX.length:Int)-x)=e/\cntM (eU p0 p1 X aW n aX) e x G=some aS) ⟨_,_,⟨z,0,false,R,Jo3,(by decide),(by simp),bp⟩,(KM R)⟩ ?_
 rintro e _ bD ⟨ad,x,G,rfl,i,aE,I,h⟩
 rcases e with _|e
 have F:=h;obtain⟨bA,h⟩:=exq F
 have V:=dcf I
 refine Jf3 R<|Jq<|Jx2 R V<|Jc1<|Jt<|Jt ?_
 cases h
 have h:=F
 refine Jb1 ?_
 cases h
 exact Jw1 _ ⟨ad,G,R,i.wk R,R⟩<|KM R
 obtain⟨bA,h,F⟩:=BI h;unfold eU at h
 have V:=dct I
 refine Jf3 R<|Jq<|Jw2 R V<|Js<|Jp<|Jq<|Jv<|Jj3<|Ob h λck aH h=>Jd3 R Q aH U27 Z2<|Jc3 R I2 ((Q.stp i).gInt aH)<|Jb 1 R<|Jl3 2 R<|Ob h λaN h bm=>Jk4 [2,3,5,6,7,9,11,25,26,27,39,40,41] 51 aN ad bD 5 tv ?_ ?_
 revert h
 cases b0:G
 refine JF λh=>Jn 2 R<|Ob h λcl aI h=>Jd3 R E.rdc aI U71 Z4<|Jc3 R I4 ((E.stp i).rdc.gBool aI)<|Jn 1 R ?_
 cases h
 exact Jl4 tv R
 refine JT λh=>Jn 3 R<|Je4 R<|Jn 1 R ?_
 cases h
 exact Jl4 tv R
 rintro _ ch _ ⟨rfl,ae,p⟩
 have h:=bm
 refine Jb 1 R<|Jq<|Js1 (J:=ae) [0,2,3,9,15] none [(0,2),(1,2),(3,2),(6,2),(2,0),(4,2),(5,0),(7,0),(8,2),(9,2),(10,2),(11,2),(12,2),(13,2),(14,0),(15,2),(16,2),(17,2),(18,2),(19,2),(20,0),(21,2),(22,2)] [] (by kernel_rfl) (by kernel_rfl) λbE q=>Je3 R U32 R Z30<|Je3 R U30 R Z27<|Jn 1 R<|Je3 R U261 R Z2<|Jg R (Jd2 I27 R R<|hvC ((P.stp<|T3 i p q).ld 0 R R) R)<|Ob h λbG aJ h=>Jd3 R D aJ U27 Z2<|Jg R (Jd2 I2 R R<|hvC ((D.stp<|T5 d a i p q).gInt aJ) R)<|Jg R (Jd2 I2 R R<|hvC ((H.stp<|T6 c d a i p q).ld 2 R R) R)<|Jf R (c7 R R R<|show ¬(2:Int)=0 by decide) (Jn 2 R<|Ob h λaO h bj=>Jk4 [2,3,5,6,7,9,11,25,26,27,39,40,41] 67 aO ae bE 5 (Cl.refl _ _ _) ?_ ?_)
 revert h
 cases bT:(bG !=(Int.tmod p1.At 2))
 refine JF λh=>Jn 3 R<|Jf4 R<|Jn 1 R ?_
 cases h
 exact Jv1 _ (Cl.refl _ _ _) ⟨R,_,Jo3⟩<|KM R
 refine JT λh=>Jn 2 R<|Ob h λcm aK h=>Jd3 R aB.rdc aK U71 Z4<|Jg R (Jd2 I4 R R<|hvC ((aB.stp<|T4 a i p q).rdc.gBool aK) R)<|Jn 1 R ?_
 cases h
 exact Jv1 _ (Cl.refl _ _ _) ⟨R,_,Jo3⟩<|KM R
 rintro _ bB _ ⟨rfl,aY,A⟩
 have h:=bj
 refine Jn 1 R<|Ob h λaP h bk=>Jk4 [2,3,5,6,7,9,25,26,27,39,40,41] 74 aP aY bB 6 (A.cl R) ?_ ?_
 revert h
 cases bV:aO
 refine JF λh=>Jn 3 R<|Jf4 R<|Jn 2 R ?_
 cases h
 exact Jv1 _ (A.cl R) ⟨R,_,Jo3⟩<|KM R
 refine JT λh=>Jn 2 R<|Ob h λcn aL h=>Jd3 R E.rdc aL U71 Z4<|Jg R (Jd2 I4 R R<|hvC ((E.stp<|T3 i p q).rdc.gBool aL) R)<|Jn 2 R ?_
 cases h
 exact Jv1 _ (A.cl R) ⟨R,_,Jo3⟩<|KM R
 rintro _ b8 _ ⟨rfl,Y,af⟩
 have h:=bk
 refine Jt1<|Jd ?_
 revert h
 cases bW:aP
 refine JF λh=>Jy R<|Js<|Jz<|Jp<|Jg3 R<|wr2 aE I Q.len_le ▸ ?_
 cases h
 exact Ja2 ⟨Y,x+1,aN,R,(T5 i p q A af).wk R,nxz aE,nxm I,F⟩ R
 refine JT λh=>Jx R<|Jf3 R<|Ju<|Ja1<|Jw<|Jw ?_
 cases h
 obtain rfl:=zt F
 have h:=yL aC
 refine Ja1<|Jr2<|Jw<|Ja1<|Jw<|Jw ?_
 cases h
 obtain rfl:=zt s
 have h:=yL T
 refine Ja1<|Jr2<|Jw<|Jb2 (l:=[.tmp 4]) results281 (Jq2 R R) R ?_
 cases h
 exact⟨Y,R,(S.stp<|T14 m k j b f g c d a i p q A af)⟩
 rintro _ cg ⟨ac,W,rfl,C,rfl⟩
 have h:=yI aC
 refine Jp<|Jq<|Js1 (J:=ac) [0,2,3] none [(0,2),(1,2),(3,2),(6,2),(2,0),(4,2),(5,0),(7,0),(8,2),(9,2),(10,2),(11,2),(12,2),(13,2)] [] (by kernel_rfl) (by kernel_rfl) λbC B=>Je3 R U32 R Z30<|Je3 R U30 R Z27<|Jn 1 R<|Je3 R U261 R Z2<|Jg R (Jd2 I27 R R<|hvC ((P.stp<|C.tr B).ld 0 R R) R)<|Ob h λbH aM h=>Jd3 R D aM U27 Z2<|Jg R (Jd2 I2 R R<|hvC ((D.stp<|T4 d a C B).gInt aM) R)<|Jg R (Jd2 I2 R R<|hvC ((H.stp<|T5 c d a C B).ld 2 R R) R)<|Jf R (c7 R R R<|show ¬(2:Int)=0 by decide) (Jn 2 R<|Ob h λaQ h bl=>Jk4 [2,3,5,6,25,26,27] 89 aQ ac bC 3 (Cl.refl _ _ _) ?_ ?_)
 revert h
 cases bX:(bH==(Int.tmod p1.At 2))
 refine JF λh=>Jn 3 R ?_
 cases h
 exact Jv1 _ (Cl.refl _ _ _) ⟨R,_,Jo3⟩<|KM R
 refine JT λh=>Jn 3 R ?_
 cases h
 exact Jv1 _ (Cl.refl _ _ _) ⟨R,_,Jo3⟩<|KM R
 rintro _ b9 _ ⟨rfl,Z,ag⟩
 have h:=bl
 refine Jt1<|Jd ?_
 revert h
 cases bY:aQ
 refine JF λh=>Jy R<|Js<|Jz<|Jp<|Jg3 R<|wr2 K v aD ▸ ?_
 cases h
 exact Ja2 ⟨Z,n+1,R,(T4 a C B ag).wk R,nxz K,nxm v,s⟩ R
 refine JT λh=>Jx R<|Jf3 R<|Ju<|Ja1<|Jw<|Jw ?_
 cases h
 obtain rfl:=zt s
 have h:=yL T
 refine Ja1<|Jr2<|Jw<|Jb2 (l:=[.tmp 4]) results281 (Jq2 R R) R ?_
 cases h
 exact⟨Z,R,(S.stp<|T12 m k j b f g c d a C B ag)⟩
 refine JT λh=>Jx R<|Jc1<|Jt<|Jb1<|Jp<|Jg3 R<|wr2 K v aD ▸ ?_
 cases h
 exact Ja2 ⟨z,n+1,R,a.wk R,nxz K,nxm v,s⟩ R
 rintro _ cf ⟨a2,rfl,a3,rfl⟩
 have h:=yI T
 refine Jp<|Jf3 R<|Ju<|Jb2 (l:=[.tmp 4]) results281 (Jq2 R R) R ?_
 cases h
 exact⟨a2,R,(S.stp<|T9 m k j b f g c d a3)⟩
theorem oh {ag Z ab af aa ac}{p0:Parity}{ad ah ai ae}{p1:Stage}(aX:Rd Ri J w 0 ag Z p0.Arena.Owner) (aY:Rd Rs J w 0 ab af p0.Arena.Next) (aZ:Rd Ri J w 0 aa ac p0.Prio) (a0:Rd Ri J w 0 ad ah p1.Won) (a1:Rd Ri J w 0 ai ae p1.Region){r:Int}(h:gG p0 p1=some r):Ret prog 283 [.agg #[.slice ag p0.Arena.Owner.length Z,.slice ab p0.Arena.Next.length af,.slice aa p0.Prio.length ac],.agg #[.slice ad p1.Won.length ah,.slice ai p1.Region.length ae,vi p1.At]] w (Pvi J w r):=by
 unfold gG at h
 refine Jp3 J func283 R ntmps283 R λa2=>Jj3<|Jx3 J 2 R λbv bH aF o aV=>Tv<|Jx3 aF 3 R λbw bM U m aW=>Tv<|Jb 1 R<|Jq<|Js1 (J:=U) [2,3] none [(0,2),(1,0),(2,0),(3,0),(4,1),(5,1),(6,2)] [] (by kernel_rfl) (by kernel_rfl) λbI i=>Je3 R U32 R Z30 ?_
 have z:=aV.stp (m.tr i)
 refine Jg R (Jh4 (haC (z.lds 0 2 R) R) I30 Z30 R)<|Jg R (Jh4 (haC z.cells R) I32 Z32 R) ?_
 have H:=aW.stp i
 refine Jg R (Jh4 (haC H.cells R) I261 Z261 R)<|Ob h λbQ bd h=>?_
 have aj:=aX.stp (T3 o m i)
 have ak:=aY.stp (T3 o m i)
 have I:=a1.stp (T3 o m i)
 refine Jw3 R call280 (jj (J:=Mk U) (p0:=p0) (p1:=p1) (Jn3 aj) (Jn3 ak) (Jn3<|aZ.stp<|T3 o m i) (Jn3<|a0.stp<|T3 o m i) (Jn3 I) bd) ?_
 rintro _ bJ ⟨bE,bt,bs,rfl,aQ,aS⟩
 obtain⟨aG,f,bf⟩:=Ji aQ 4 R
 refine⟨(f.cl R),Ob h λT be h=>?_⟩
 have K:=aj.stp f
 have L:=ak.stp f
 refine Jw3 R call189 (gN (J:=Mk aG) (p0:=p0.Arena) (Jn3 K) (Jn3 L) (Jn3 (aS.mx (aT _) bf R (R:4+2=6)).rdc) be) ?_
 rintro _ aB ⟨bF,br,bq,rfl,aR,aU⟩
 obtain⟨E,k,bg⟩:=Ji aR 7 R
 refine⟨((f.tr k).cl R),?_⟩
 have M:=aU.mx bU bg R (R:7+2=9)
 refine Jn 1 R<|Jt1<|Jd<|Jf3 R<|Jq<|Jl3 1 R<|Js3 R U71 R R<|Jb 1 R ?_
 have al:=M.len_le
 refine Ob h λay bb a3=>?_
 clear h
 refine Jx1 (λb d=>∃e S,b=[(6,vi S)]/\Stp [] E aB e d/\ay=zw S) ?_ ?_
 refine Jv<|Ju3 [2,3,5,18,19] (λa j b d=>∃e n s,b=(6,vi s)::(20,vi n)::j/\Stp [] E aB e d/\0<=n/\zq ((T.length:Int)-n)=a/\cntM (dM p0 p1 T) a n s=some ay) ⟨_,_,⟨E,0,((-1):Int),R,Jo3,(by decide),(by simp),bb⟩,(KM R)⟩ ?_
 rintro a _ bL ⟨F,n,s,rfl,c,B,q,h⟩
 rcases a with _|a
 have v:=h;obtain⟨bh,h⟩:=exq v
 have P:=dcf q
 refine Jf3 R<|Jq<|Jx2 R P<|Jc1<|Jt<|Jt ?_
 cases h
 have h:=v
 refine Jb1 ?_
 cases h
 exact Jw1 _ ⟨F,s,R,c.wk R,R⟩<|KM R
 obtain⟨bh,h,v⟩:=BI h;unfold dM at h
 have P:=dct q
 refine Jf3 R<|Jq<|Jw2 R P<|Js<|Jp<|Jq<|Jv<|Jl3 1 R<|Ob h λbn an h=>Jd3 R M.rdc an U71 Z4 ?_
 have N:=M.stp c
 refine Jc3 R I4 (N.rdc.gBool an)<|Jb 2 R<|Jq<|Jq<|Js1 (J:=F) [0,2,3] none [(0,2),(1,2),(2,2),(3,2),(4,2),(6,2),(9,2),(5,0),(7,2),(8,0),(10,0),(11,2),(12,2),(13,2)] [] (by kernel_rfl) (by kernel_rfl) λbk g=>Jn 3 R<|Ob h λav h a4=>Jk4 [2,3,5,6,7,18,19,20] 38 av F bk 11 (Cl.refl _ _ _) ?_ ?_
 revert h
 cases bx:(!bn)
 have X:=(T4 f k c g)
 refine JF λh=>Je3 R U32 R Z30<|Je3 R U30 R Z27<|Jn 1 R<|Je3 R U261 R Z2<|Jg R (Jd2 I27 R R<|hvC ((z.stp X).ld 0 R R) R)<|Ob h λbR ao h=>Jd3 R K ao U27 Z2<|Jg R (Jd2 I2 R R<|hvC ((K.stp<|T3 k c g).gInt ao) R)<|Jg R (Jd2 I2 R R<|hvC ((H.stp X).ld 2 R R) R)<|Jf R (c7 R R R<|show ¬(2:Int)=0 by decide) (Jn 2 R ?_)
 cases h
 exact Jv1 _ (Cl.refl _ _ _) ⟨R,_,Jo3⟩<|KM R
 refine JT λh=>Jn 4 R<|Jf4 R<|Jn 1 R<|Jf4 R<|Jf4 R<|Jn 3 R ?_
 cases h
 exact Jv1 _ (Cl.refl _ _ _) ⟨R,_,Jo3⟩<|KM R
 rintro _ aC _ ⟨rfl,y,p⟩
 have h:=a4
 refine Jt1<|Jd ?_
 revert h
 cases bz:av
 refine JF λh=>Jy R<|Js<|Jp<|Jj3<|Je3 R U32 R Z30<|Je3 R U30 R Z28<|Jc3 R I28 ((z.stp<|T5 f k c g p).ld 1 R R)<|Jn 1 R<|Ob h λaE ap h=>Jd3 R L ap U28 Z27 ?_
 obtain⟨bu,bG,O,ba⟩:=(L.stp (T4 k c g p)).gSl ap
 refine Jc3 R I27 ba<|Js3 R U27 R R<|Jb 1 R<|Ob h λaz bc a5=>?_
 clear h
 refine Jt3 [2,3,5,18,19,20] (λj b d=>∃e D,b=(6,vi D)::j/\Stp [] y aC e d/\az=zw D) ?_ ?_
 refine Jv<|Ju3 [2,3,5,18,19,20,44,45] (λa j b d=>∃e t x,b=(6,vi x)::(46,vi t)::j/\Stp [] y aC e d/\0<=t/\zq ((aE.length:Int)-t)=a/\cntM (dN p1 T aE) a t x=some az) ⟨_,_,⟨y,0,s,R,Jo3,(by decide),(by simp),bc⟩,(KM R)⟩ ?_
 rintro a _ bl ⟨V,t,x,rfl,u,am,A,h⟩
 rcases a with _|a
 have C:=h;obtain⟨bi,h⟩:=exq C
 have Q:=dcf A
 refine Jf3 R<|Jq<|Jx2 R Q<|Jc1<|Jt<|Jt ?_
 cases h
 have h:=C
 refine Jb1 ?_
 cases h
 exact Jw1 _ ⟨V,x,R,u.wk R,R⟩<|KM R
 obtain⟨bi,h,C⟩:=BI h;unfold dN at h
 have Q:=dct A
 have Y:=(T6 f k c g p u)
 refine Jf3 R<|Jq<|Jw2 R Q<|Js<|Jp<|Jq<|Jv<|Jj3<|Ob h λbS aq h=>Jd3 R O aq U27 Z2<|Jc3 R I2 ((O.stp u).gInt aq)<|Jb 1 R<|Jj3<|Je3 R U261 R Z27<|Jc3 R I27 ((H.stp Y).ld 1 R R)<|Jn 1 R<|Ob h λbo ar h=>Jd3 R I ar U27 Z2<|Jc3 R I2 ((I.stp Y).gInt ar)<|Jb 1 R<|Jl3 3 R<|Ob h λaw h a6=>Jk4 [2,3,5,6,11,18,19,20,44,45,46] 63 aw V bl 6 tv ?_ ?_
 revert h
 cases bA:decide (0<=bo)
 refine JF λh=>Jn 3 R<|Je4 R<|Jn 2 R ?_
 cases h
 exact Jl4 tv R
 refine JT λh=>Jn 2 R<|Ob h λbT au h=>Jd3 R N.rdc au U71 Z4<|Jc3 R I4 ((N.stp<|T3 g p u).rdc.gBool au)<|Jn 2 R ?_
 cases h
 exact Jl4 tv R
 rintro _ aD _ ⟨rfl,W,aM⟩
 have h:=a6
 refine Jn 1 R<|Ob h λax h a7=>Jk4 [2,3,5,6,11,18,19,20,44,45,46] 72 ax W aD 8 tv ?_ ?_
 revert h
 cases bB:aw
 refine JF λh=>Jn 8 R ?_
 cases h
 exact Jl4 tv R
 refine JT λh=>Jn 3 R<|Ob h λbj h a8=>Jk4 [2,3,5,6,11,18,19,20,44,45,46,64,65,66,67] 71 bj W aD 4 tv ?_ ?_
 revert h
 cases bC:decide (x<0)
 refine JF λh=>Jn 4 R ?_
 cases h
 exact Jl4 tv R
 refine JT λh=>Jn 4 R ?_
 cases h
 exact Jl4 tv R
 rintro _ bO _ ⟨rfl,bp,aN⟩
 have h:=a8
 refine Jn 1 R ?_
 cases h
 exact Jv1 _ tv ⟨R,_,aN.wk R⟩<|KM R
 rintro _ bm _ ⟨rfl,G,aO⟩
 have h:=a7
 refine Jd<|Ob h λaA h a9=>Jt3 [2,3,5,18,19,20,44,45,46] (λj b d=>∃e,b=(6,vi aA)::j/\Stp [] G bm e d) ?_ ?_
 revert h
 cases bD:ax
 refine JF λh=>Jy R<|Js ?_
 cases h
 exact Jw1 _ ⟨G,R,Jo3⟩<|KM R
 refine JT λh=>Jx R<|Jg3 R ?_
 cases h
 exact Jw1 _ ⟨G,R,Jo3⟩<|KM R
 rintro _ bP ⟨aJ,rfl,aP⟩
 have h:=a9
 refine Jz<|Jp<|Jg3 R<|wr2 am A O.len_le ▸ ?_
 cases h
 exact Ja2 ⟨aJ,t+1,aA,R,(T4 u aM aO aP).wk R,nxz am,nxm A,C⟩ R
 rintro _ bN ⟨aI,D,rfl,aL,rfl⟩
 have h:=yI a5
 refine Jz<|Jp<|Jg3 R<|wr2 B q al ▸ ?_
 cases h
 exact Ja2 ⟨aI,n+1,D,R,(T4 c g p aL).wk R,nxz B,nxm q,v⟩ R
 refine JT λh=>Jx R<|Jc1<|Jt<|Jb1<|Jp<|Jg3 R<|wr2 B q al ▸ ?_
 cases h
 exact Ja2 ⟨y,n+1,s,R,(T3 c g p).wk R,nxz B,nxm q,v⟩ R
 rintro _ bK ⟨aH,S,rfl,aK,rfl⟩
 have h:=yI a3
 refine Jp<|Jf3 R<|Ju<|Jb2 (l:=[.tmp 4]) results283 (Jq2 R R) R ?_
 cases h
 exact⟨aH,R,(a2.stp<|T6 o m i f k aK)⟩
end
end Go.Proofs.YtgbippnfaoedmaaGreatDoor
