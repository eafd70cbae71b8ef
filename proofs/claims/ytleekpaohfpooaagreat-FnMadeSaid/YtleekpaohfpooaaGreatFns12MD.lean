/- The walks, part 12. By program. -/
import Derived.Test.YtleekpaohfpooaaGreatFns11MD
set_option linter.unusedVariables false
set_option linter.unusedSimpArgs false
namespace Go.Proofs.YtleekpaohfpooaaGreat
open Tryz
open Go Go.Wk Go.Proofs
set_option maxRecDepth 100000
set_option maxHeartbeats 1000000
section
variable {w:World}{J:Col}
theorem vP {I Q}{p0:VI}(M:Rd (Rp.int .u8) J w 0 I Q p0){r:Bool}(h:pX p0=some r):Ret prog 6 [.slice I p0.length Q] w (Pvb J w r):=by
 unfold pX at h
 refine Jl3 J func6 R ntmps6 R λy=>Jf3 R<|Jq<|Jh3 [2,1] 1 R<|Ob h λaT aH h=>Js3 R call8 (zj (J:=Mk J) (Jj3 M) aH) ?_
 rintro _ bw ⟨bl,rfl,ae⟩
 obtain⟨C,m,bt⟩:=Ji ae 2 R
 refine Tv<|Jd ?_
 revert h
 cases bg:aT
 refine JF λh=>Jy R<|Js<|Jp<|Jh3 [2,1,2] 1 R<|Ob h λaP az h=>Js3 R call9 (yz (J:=λs=>mp [] 1<|C s) (Jm2 (M.stp m) (mp [] 1) R R) az) ?_
 rintro _ bx ⟨bj,a1,a2,a9,rfl,ad,am,an⟩
 obtain⟨U,G,aI,aU⟩:=Jj ad 4 R
 refine Tv<|Jb 1 R<|Je [2,1,1] R<|Jf R (Jj4 [vi 1,vi 1] R)<|Ju3 U 8 R zeroValue28 R λba bC B j ao=>Tv<|Ji4 B 8 R Z28 R ao R λbD k ap=>Tv<|Jd<|Jh3 [2,1,2] 1 R<|Ob h λbL aA h=>Js3 R call18 (r7 (J:=λs=>mp [(7,2)] 0<|B s) (p0:=aP) (Jm2 ((am.mx aU).stp (j.tr k)) (mp [(7,2)] 0) R R) (((an.mx aI R (R:4+3=7)).stp (j.tr k)).map (mp [(7,2)] 0) R R) aA) ?_
 rintro _ bE ⟨bm,aZ,a5,rfl,af,aq,bc⟩
 obtain⟨V,p,aJ⟩:=Ji af 9 R
 refine Tv<|?_
 have t:=aq.mx Clause.no67 aJ R (R:9+3=12)
 refine Jb 1 R<|Je [1,2,1,2,2,2,1,1,2] R ?_
 have u:=ap.stp p
 refine Jc4 tv R (Jd4 (haE u.cells) I28 Z28 R)<|Jn 1 R<|Ob h λz aB h=>Js3 R call11 (rO (J:=Mk V) (p0:=(⟨1,1⟩:Sig)) (Jj3 t.rdc) aB) ?_
 rintro _ bF ⟨bn,aY,a0,a4,a8,rfl,ag,ar,au⟩
 obtain⟨W,f,O⟩:=Ji ag 13 R
 refine Tv<|?_
 have K:=ar.mx (cQ (bZ _) _) O R (R:13+2=15)
 have L:=au.mx (cQ (bZ _) _) O R (R:13+3=16)
 refine Jn 3 R<|Ju3 W 17 R X33 R λbb bG i c av=>Tv<|Ji4 i 17 R Z33 R av R λbH d v=>Tv<|Jb 1 R<|Jq<|Jf3 R ?_
 revert h
 cases be:(!z.2)
 refine JF λh=>Jy R<|Js<|Jp<|Jq<|Js1 (J:=i) [8,17] none [(1,2),(0,0),(2,1),(3,2),(6,2),(4,0),(5,0),(7,1),(8,2),(9,2),(14,2),(10,0),(11,0),(12,0),(13,1),(15,1),(16,2),(17,2)] [] (by kernel_rfl) (by kernel_rfl) λbJ e=>Jn 1 R ?_
 have n:=u.stp (T4 f c d e)
 refine Jg R (Jd4 (haC n.cells R) I28 Z28 R)<|Ob h λaR aD h=>?_
 have x:=t.stp (T4 f c d e)
 refine Js3 R call12 (mV (J:=Mk i) (p0:=(⟨1,1⟩:Sig)) (Jj3 x.rdc) aD) ?_
 rintro _ aO ⟨bp,rfl,ai⟩
 obtain⟨D,a,bv⟩:=Ji ai 18 R
 refine⟨(a.cl R),Jn 1 R<|Ob h λP h ay=>Jg4 [2,4,5,6] 41 P D aO [(6,2),(4,0),(5,0),(7,1),(8,2)] [(9,2),(14,2),(10,0),(11,0),(12,0),(13,1),(15,1),(16,2),(17,2)] (a.cl R) ?_ ?_⟩
 revert h
 cases bh:aR
 refine JF λh=>Jn 1 R<|Jb4 R<|Jb4 R<|Ja4 R<|Jn 1 R ?_
 cases h
 exact Jv1 _ (a.cl R) ⟨R,_,Jk3⟩<|KM R
 have E:=(T4 c d e a)
 refine JT λh=>Jn 1 R<|Jg R (Jd4 (haC n.cells R) I28 Z28 R)<|Jg R (Jd4 (haC (v.stp e).cells R) I33 Z33 R)<|Ob h λbM aE h=>Js3 R call22 (tm (J:=Mk D) (p0:=(⟨1,1⟩:Sig)) (p1:=z.1) (Jj3 (K.stp E).rdc) (Jj3 (L.stp E).rdc) (Jj3 (x.stp a).rdc) aE) ?_
 rintro _ bK ⟨bq,rfl,aj⟩
 obtain⟨aW,q,br⟩:=Ji aj 20 R
 refine⟨((a.tr q).cl R),Jn 1 R ?_⟩
 cases h
 exact Jv1 _ ((a.tr q).cl R) ⟨R,_,q.wk R⟩<|KM R
 rintro _ aM _ ⟨rfl,A,b⟩
 have h:=ay
 refine Jn 1 R<|Ob h λaL h aw=>Jg4 [2] 49 aL A aM [(14,2),(10,0),(11,0),(12,0),(13,1),(15,1),(16,2)] [(17,2)] ((a.tr b).cl R) ?_ ?_
 revert h
 cases bd:P
 refine JF λh=>Jn 1 R<|Jb4 R<|Jb4 R<|Jb4 R<|Ja4 R<|Ja4 R<|Jn 1 R ?_
 cases h
 exact Jv1 _ ((a.tr b).cl R) ⟨R,_,Jk3⟩<|KM R
 have F:=(T5 c d e a b)
 refine JT λh=>Jn 1 R<|Jg R (Jd4 (haC n.cells R) I28 Z28 R)<|Jg R (Jd4 (haC n.cells R) I28 Z28 R)<|Jg R (Jd4 (haC (v.stp e).cells R) I33 Z33 R)<|Ob h λaS aF h=>Js3 R call32 (uj (J:=Mk A) (p0:=(⟨1,1⟩:Sig)) (p1:=z.1) (Jj3 (K.stp F).rdc) (Jj3 (L.stp F).rdc) aF) ?_
 rintro _ bz ⟨bi,a7,a3,a6,aX,rfl,ab,ak,al⟩
 obtain⟨S,g,N⟩:=Ji ab 20 R
 refine⟨((T3 a b g).cl R),Ob h λbN aG h=>Js3 R call29 (sV (J:=Mk S) (p0:=(⟨1,1⟩:Sig)) (p1:=aS) (Jj3 (ak.mx (cQ (bZ _) _) N R (R:20+2=22)).rdc) (Jj3 (al.mx (cQ (bZ _) _) N R (R:20+3=23)).rdc) (Jj3 (x.stp<|T3 a b g).rdc) aG) ?_⟩
 rintro _ bA ⟨bk,rfl,ac⟩
 obtain⟨aV,o,bs⟩:=Ji ac 24 R
 refine⟨((T4 a b g o).cl R),Jn 1 R ?_⟩
 cases h
 exact Jv1 _ ((T4 a b g o).cl R) ⟨R,_,(g.tr o).wk R⟩<|KM R
 rintro _ bB _ ⟨rfl,T,Z⟩
 have h:=aw
 refine Jn 1 R<|Jt1<|Jd<|Ju<|Jb2 (l:=[.tmp 2]) results6 (Jq2 R R) R ?_
 cases h
 exact⟨T,R,(y.stp<|T12 m G j k p f c d e a b Z)⟩
 refine JT λh=>Jx R<|Je [1,2,1,2,2,2,1,2,2,2,2] R<|Jc4 tv R (Jd4 (haE (u.stp<|T3 f c d).cells) I28 Z28 R)<|Jn 1 R<|Ob h λaQ aC h=>Js3 R call12 (mV (J:=Mk i) (p0:=(⟨1,1⟩:Sig)) (Jj3 (t.stp<|T3 f c d).rdc) aC) ?_
 rintro _ aN ⟨bo,rfl,ah⟩
 obtain⟨X,H,bu⟩:=Ji ah 18 R
 refine Tv<|Jn 2 R<|Ob h λaK h ax=>Jg4 [2] 32 aK X aN [(5,2),(6,1),(7,2),(8,2),(9,2)] [(10,2)] tv ?_ ?_
 revert h
 cases bf:(!aQ)
 refine JF λh=>Jn 1 R<|Ja4 R<|Jn 3 R ?_
 cases h
 exact Jh4 tv R
 refine JT λh=>Je3 R U33 R Z31<|Jc3 R I31 ((v.stp H).ld 0 R R)<|Jo3 R U31 R R<|Jn 2 R ?_
 cases h
 exact Jh4 tv R
 rintro _ bI _ ⟨rfl,Y,aa⟩
 have h:=ax
 refine Jb 1 R<|Ju<|Jw<|Jb2 (l:=[.tmp 2]) results6 (Jq2 R R) R ?_
 cases h
 exact⟨Y,R,(y.stp<|T10 m G j k p f c d H aa)⟩
 refine JT λh=>Jx R<|Jf3 R<|Ju<|Jw<|Jb2 (l:=[.tmp 2]) results6 (Jq2 R R) R ?_
 cases h
 exact⟨C,R,(y.stp m)⟩
end
end Go.Proofs.YtleekpaohfpooaaGreat
