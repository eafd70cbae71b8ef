/- The program's words of a duel and of a rival: the rival's letters on some outputs. -/
import Derived.Test.YtfombamjdkihnaaGreatL3EI
import Derived.Test.YtfombamjdkihnaaGreatL2EI
import Derived.Test.YtfombamjdkihnaaGreatL0EI
import Derived.Test.YtfombamjdkihnaaGreatL1EI
import Derived.Test.YtfombamjdkihnaaGreatCmpEI
set_option linter.unusedVariables false
set_option linter.unusedSimpArgs false
open Bool renaming eq_iff_iff → E4, not_false → FA, not_true → E5
open Classical renaming byContradiction → E8
open Go.IntKind renaming wrap → ET
open List renaming all_eq_true → Fc, append_assoc → Ej, append_nil → F8, filter_append → FD, filter_congr → F9, filter_cons → Fe, filter_eq_self → Ga, getElem?_append_left → Es, getElem?_eq_getElem → o7, getElem?_eq_some_iff → DX, getElem?_of_mem → Ff, getElem?_replicate → FF, length_append → DZ, length_cons → D0, length_filter_le → Fg, length_map → Fh, length_nil → Fi, length_pos_of_mem → FT, length_take → EB, mem_append → D2, mem_append_left → Gb, mem_cons → D3, mem_cons_of_mem → ED, mem_filter → Fk, mem_map → EE, mem_of_getElem? → EF, mem_reverse → Gc, mem_singleton → D4, mergeSort_perm → Gd, nil_append → FU, nodup_append → Fo, nodup_cons → FJ, pairwise_map → F3, replicate → EH, take_add_one → Ft, take_length → Fv
open Nat renaming le_refl → Ec, le_trans → Fw, not_lt_zero → Fx, zero_add → Ef, zero_le → Fy
open Option renaming bind → EO, bind_eq_some_iff → Ge, bind_some → Fz, toList_some → Gf
open Option.some renaming inj → EU
namespace Go.Proofs.YtfombamjdkihnaaGreat
open Go Go.Wk Go.Proofs
theorem Cz {xs:VI}{k:Nat}(hk:k<=xs.length) (c:k<=600) (d:xs.length<=k+600):mS xs (k:Int)=some (⟨xs.take k,xs.drop k⟩,true):=by
 have a:subS xs 0 (k:Int)=some (xs.take k):=by
  unfold subS
  rw[if_pos ⟨by omega,by omega,by omega⟩];simp
 have b:subS xs (k:Int) (xs.length:Int)=some (xs.drop k):=by
  unfold subS
  rw[if_pos ⟨by omega,by omega,by omega⟩];simp
 unfold mS
 rw[wr' (by omega) (by omega),orE,Fz,decide_eq_false (show ¬600<(k:Int) by omega),decide_eq_false (by omega),a,b]
 have e:=List.length_take_le k xs
 have f:(xs.drop k).length=xs.length-k:=List.length_drop ..
 simp only[Bool.or_self,cond_false,Fz]
 rw[appL (by rw[Fi];omega) rfl,appL (by rw[Fi];omega) rfl]
 rfl
theorem zO {p:Sig}{X:Nat->Int}(d:∀c,0<=X c/\X c<ltr p){a b:Nat}(ha:a<=600) (f:b<=600) (e:0<b):wordOk ⟨seg X 0 a,seg X a b⟩ (ltr p)=true:=by
 unfold wordOk
 dsimp only
 rw[g9,g9,decide_eq_true (by omega),decide_eq_true (by omega),decide_eq_true (by omega),Fc.2 (y6 (P:=λx=>inR (ltr p) x=true) (λc=>dc.2 (d c)) _ _),Fc.2 (y6 (P:=λx=>inR (ltr p) x=true) (λc=>dc.2 (d c)) _ _)]
 rfl
section
variable (n:Int) (T:VI) (z:Int)
def seenOf (n:Int):Nat->VI->List ((Int×Int)×Int)
 |_,[]=>[]
 |k,x::T=>((dq n x,ds n x),(k:Int))::seenOf n (k+1) T
theorem yc:∀(T:VI) (k:Nat),getK (seenOf n k T) (dq n z,ds n z)=(T.findIdx? (λx=>z==x)).map (λb=>((k+b:Nat):Int))
 | [],_=>rfl
 |x::T,k=>by
  simp only[seenOf,getK,List.findIdx?_cons]
  by_cases h:z=x
  .simp[h]
  .have c:¬((dq n z,ds n z)=(dq n x,ds n x)):=λa=>h (Cw (Prod.mk.injEq .. ▸ a).1 (Prod.mk.injEq .. ▸ a).2)
   have d:(z==x)=false:=by rw[beq_eq_false_iff_ne];exact h
   rw[if_neg c,d,yc T (k+1)]
   cases T.findIdx? (λx=>z==x) with
   |none=>rfl
   |some b=>simp;omega
theorem yd:∀(T:VI) (k:Nat) (v:Int),z∉T->v=((k+T.length:Nat):Int)->putK (seenOf n k T) (dq n z,ds n z) v=seenOf n k (T++[z])
 | [],k,v,_,hv=>by simp[seenOf,putK,hv]
 |x::T,k,v,hz,hv=>by
  have h:¬z=x:=λa=>hz (by rw[a];exact List.mem_cons_self ..)
  have b:¬((dq n z,ds n z)=(dq n x,ds n x)):=λa=>h (Cw (Prod.mk.injEq .. ▸ a).1 (Prod.mk.injEq .. ▸ a).2)
  simp only[seenOf,putK,List.cons_append]
  rw[if_neg b,yd T (k+1) v (λc=>hz (ED _ c)) (by rw[hv,D0];omega)]
end
section
variable {p:Sig}{r:Rival}(hs:sigOk p=true) (hr:rivalOk p r=true)
include hs hr
theorem CJ {m:Machine}(Y:machOk p m=true) (aL:m.Next.length * r.In.length<=600):∃H O,qy p m r=some (H,true)/\wordOk H (ltr p)=true/\(∀a,0<=O a/\O a<pw p.Out)/\ltW H=letR p r O:=by
 have aV:=eu p.In
 have aW:=eu p.Out
 obtain⟨az,aR,aS,aA,aB⟩:=xz Y
 obtain⟨ay,aQ,_⟩:=fa hr
 obtain⟨M,ar⟩:∃M,m.Next.length * r.In.length=M:=⟨_,rfl⟩
 have R:(m.Next.length:Int) * (r.In.length:Int)=(M:Int):=by rw[← ar];simp
 have aM:1 * 1<=m.Next.length * r.In.length:=Nat.mul_le_mul az ay
 generalize hnn:(r.In.length:Int)=n at R
 generalize hmm:(m.Next.length:Int)=k at R
 have Z:1<=n:=by omega
 let u:Int->Int:=λz=>inAt r (ds n z)
 let b:Int->Int:=λz=>tab m.Out (dq n z) (u z)
 let c:Int->Int:=λz=>tab m.Next (dq n z) (u z) * n+tab r.Next (ds n z) (b z)
 let d:Int->VI:=λz=>[b z * pw p.In+u z]
 have av:∀x,(d x).length=1:=λx=>rfl
 have A:∀z,0<=z->z<(M:Int)->(0<=dq n z/\dq n z<m.Next.length/\0<=ds n z/\ds n z<r.In.length)/\(idx r.In (ds n z)=some (u z)/\0<=u z/\u z<pw p.In)/\(∃row,idx m.Out (dq n z)=some row/\idx row (u z)=some (b z)/\0<=b z/\b z<pw p.Out) /\
  (∃row,idx m.Next (dq n z)=some row/\idx row (u z)=some (tab m.Next (dq n z) (u z))/\0<=tab m.Next (dq n z) (u z)/\tab m.Next (dq n z) (u z)<m.Next.length)/\(∃row,idx r.Next (ds n z)=some row/\idx row (b z)=some (tab r.Next (ds n z) (b z))/\0<=tab r.Next (ds n z) (b z)/\tab r.Next (ds n z) (b z)<r.In.length) /\
  dq n (c z)=tab m.Next (dq n z) (u z)/\ds n (c z)=tab r.Next (ds n z) (b z):=λz K af=>by
  obtain⟨v,aj,w,ak⟩:=DQ (m:=k) Z K (by omega)
  have q:=sH hr w (by omega:ds n z<r.In.length)
  have F:=pe aB v (by omega:dq n z<m.Out.length) q.2.1 q.2.2
  have hx:=pe aA v (by omega:dq n z<m.Next.length) q.2.1 q.2.2
  have hy:=qR hr w (by omega:ds n z<r.In.length) F.choose_spec.2.2.1 F.choose_spec.2.2.2
  have ae:=hy.choose_spec.2.2.1
  have I:=hy.choose_spec.2.2.2
  have U:=CF (n:=n) (q:=tab m.Next (dq n z) (u z)) Z ae (by omega)
  exact⟨⟨v,by omega,w,by omega⟩,q,F,hx,hy,U.1,U.2⟩
 have D:∀t:Int,0<=t->t<(M:Nat)->0<=c t/\c t<(M:Nat):=λz K af=>by
  obtain⟨_,_,_,⟨_,_,_,aF,ad⟩,⟨_,_,_,ae,I⟩,_⟩:=A z K af
  have aK:0<=tab m.Next (dq n z) (u z) * n:=Int.mul_nonneg aF (by omega)
  have aq:(tab m.Next (dq n z) (u z)+1) * n<=k * n:=Int.mul_le_mul_of_nonneg_right (by omega) (by omega)
  rw[Int.add_mul,Int.one_mul]at aq
  show 0<=tab m.Next (dq n z) (u z) * n+tab r.Next (ds n z) (b z)/\tab m.Next (dq n z) (u z) * n+tab r.Next (ds n z) (b z)<(M:Int)
  omega
 have L:dq n 0=0/\ds n 0=0:=by unfold dq ds;simp
 have g:=uX (f:=j4 p m r) (λT z=>(T.flatMap d,dq n z,ds n z,seenOf n 0 T)) (λT z=>((⟨(T.flatMap d).take (dE T z).toNat,(T.flatMap d).drop (dE T z).toNat⟩:Word),true)) D (λT z au aw ag ah=>by
  obtain⟨⟨v,aj,w,ak⟩,⟨aE,a0,a1⟩,⟨aX,aC,aD,G,ac⟩,⟨aY,ad,aG,_⟩,⟨aZ,I,aH,_⟩,ai,C⟩:=A z ag ah
  have V:=tg (part:=d) av T
  have aN:=cZ M T au aw
  have aa:kwI2 (dq n z,ds n z)=true:=by
   unfold kwI2 wf2
   exact decide_eq_true ⟨by omega,by omega,by omega,by omega⟩
  unfold j4
  dsimp only
  unfold mget mset
  rw[if_pos aa,if_pos aa,yc]
  by_cases o:z∈T
  .obtain⟨e,j,aT,aU⟩:=uc o
   have E:T.findIdx? (λx=>z==x)=some e:=by
    unfold dE at j
    cases W:T.findIdx? (λx=>z==x) with
    |none=>rw[W]at j;simp only at j;omega
    |some ab=>rw[W]at j;simp only at j;congr 1;omega
   simp only[E,o,Option.map_some,Ef,Fz,cond_true,if_true]
   rw[Cz (by omega) (by omega) (by omega),j]
   rfl
  .have E:T.findIdx? (λx=>z==x)=none:=by
    rw[List.findIdx?_eq_none_iff]
    intro x hx
    rw[beq_eq_false_iff_ne]
    exact λal=>o (al ▸ hx)
   have aO:0<=b z * pw p.In:=Int.mul_nonneg G (by omega)
   have aP:b z * pw p.In<=4 * 4:=Int.mul_le_mul (by omega) (by omega) (by omega) (by omega)
   simp only[E,o,Option.map_none,Fz,cond_false,if_false]
   rw[yd n z T 0 _ o (by rw[V];omega),aE,Fz,aC,Fz,aD,Fz,oB hs,Fz,wr' (z:=b z * pw p.In) (by omega) (by omega),wr' (by omega) (by omega),app1 (by rw[V];omega) rfl,Fz,ad,Fz,aG,Fz,I,Fz,aH,Fz,List.flatMap_append,ai,C]
   simp only[List.flatMap_cons,List.flatMap_nil,F8]
   rfl) (M+1) (2 ^ 64) [] 0 (by simp) (by omega) (by simp) (by simp) (by omega) (by omega)
 have i:∀a,0<=itB c 0 a/\itB c 0 a<(M:Int):=λa=>by
  induction a with
  |zero=>show(0:Int)<=0/\(0:Int)<_;omega
  |succ a B=>exact D _ B.1 B.2
 have ax:∀a,runR r (λa=>b (itB c 0 a)) a=ds n (itB c 0 a):=λa=>by
  induction a with
  |zero=>exact L.2.symm
  |succ a B=>
   obtain⟨_,_,_,_,_,_,C⟩:=A _ (i a).1 (i a).2
   show tab r.Next (runR r _ a) _=ds n (c _)
   rw[B,C]
 have S:∀a,0<=b (itB c 0 a)/\b (itB c 0 a)<pw p.Out:=λa=>by
  obtain⟨_,_,⟨_,_,_,G,ac⟩,_⟩:=A _ (i a).1 (i a).2
  exact⟨G,ac⟩
 obtain⟨T,z,e,N,am,aI,aJ,y,P,an,Q⟩:=tO (X:=letR p r λa=>b (itB c 0 a)) (part:=d) (s:=0) (l:=1) (by omega) (λab=>by
  rw[Ef,Nat.mul_one]
  show[_]=[_]
  unfold letR
  rw[ax]) (λab=>rfl) D (i 0).1 (i 0).2
 have y:T.flatMap d=_:=y
 simp only[Ef,Nat.mul_one]at y P an Q
 rw[show itB c 0 0=0 from rfl]at N
 obtain⟨ao,ap⟩:=zM (letR p r λa=>b (itB c 0 a)) e (T.length-e)
 rw[L.1,L.2,N]at g
 dsimp only at g
 rw[y,am,Int.toNat_natCast]at g
 refine⟨⟨seg (letR p r λa=>b (itB c 0 a)) 0 e,seg (letR p r λa=>b (itB c 0 a)) e (T.length-e)⟩,_,?_,zO (sL hr S) (by omega) (by omega) P,S,Q⟩
 unfold qy
 rw[jk,Fz,hs,tz hs,nt p r hs,Y,hr]
 simp only[Bool.and_self,E5,cond_false,Fz]
 rw[show seenOf n 0 []=[] from rfl]at g
 have g:bQ (j4 p m r) (2 ^ 64) ([],0,0,[])=_:=g
 rw[g,Fz,ze,ao,ap]
omit hs hr in
theorem ye (O:Nat->Int):∀n a,behindR r (runR r O a) (seg O a n)=runR r O (a+n)/\lettersR p r (runR r O a) (seg O a n)=seg (letR p r O) a n
 |0,_=>⟨rfl,rfl⟩
 |n+1,a=>by
  obtain⟨b,c⟩:=ye O n (a+1)
  refine⟨?_,congrArg (letR p r O a:: ·) c⟩
  rw[show a+(n+1)=a+1+n by omega]
  exact b
theorem DE {w:Word}(H:wordOk w (pw p.Out)=true) (ac:w.Stem.length+r.In.length * w.Loop.length<=600):∃x,lL p r w=some (x,true)/\wordOk x (ltr p)=true/\ltW x=letR p r (ltW w)/\∀b,0<=ltW w b/\ltW w b<pw p.Out:=by
 have ai:=eu p.Out
 obtain⟨o,F⟩:=db hs
 obtain⟨aj,ak,al,I,t⟩:=si H
 obtain⟨ag,ah,_⟩:=fa hr
 have i:0<w.Loop.length:=by omega
 have l:∀b,0<=ltW w b/\ltW w b<pw p.Out:=λb=>by
  rcases D2.1 (sM i b) with h|h
  .exact dc.1 (Fc.1 I _ h)
  .exact dc.1 (Fc.1 t _ h)
 have B:w.Stem=seg (ltW w) 0 w.Stem.length:=sY λd x o=>by
  rw[Ef]
  exact oK i (by rw[Es (DX.1 o).1];exact o)
 generalize hX:letR p r (ltW w)=X
 have q:=λn b=>ye (p:=p) (r:=r) (ltW w) n b
 rw[hX]at q
 obtain⟨e,g⟩:=q w.Stem.length 0
 rw[← B,Ef]at e
 rw[← B]at g
 have e:behindR r 0 w.Stem=runR r (ltW w) w.Stem.length:=e
 have g:lettersR p r 0 w.Stem=seg X 0 w.Stem.length:=g
 have D:∀c,behindR r (runR r (ltW w) (w.Stem.length+c * w.Loop.length)) w.Loop=runR r (ltW w) (w.Stem.length+(c+1) * w.Loop.length)/\lettersR p r (runR r (ltW w) (w.Stem.length+c * w.Loop.length)) w.Loop=seg X (w.Stem.length+c * w.Loop.length) w.Loop.length:=λc=>by
  obtain⟨y,A⟩:=q w.Loop.length (w.Stem.length+c * w.Loop.length)
  rw[← xx i c]at y A
  exact⟨by rw[y,Nat.add_mul,Nat.one_mul,← Nat.add_assoc],A⟩
 have C:∀a:Int,0<=a->a<(r.In.length:Nat)->0<=behindR r a w.Loop/\behindR r a w.Loop<(r.In.length:Nat):=λa K u=>yw hr K u t
 have j:=qT hr l w.Stem.length
 have Z:∀x,(lettersR p r x w.Loop).length=w.Loop.length:=λx=>oe p r _ _
 have E:∀T:VI,T.length<=r.In.length->T.length * w.Loop.length<=r.In.length * w.Loop.length:=λT m=>Nat.mul_le_mul_right _ m
 have k:=uY (f:=iD p r w) (λT a=>(T,seg X 0 w.Stem.length++T.flatMap (λa=>lettersR p r a w.Loop),a)) C (λT a m af L M=>by
  unfold iD
  dsimp only
  rw[cU,Fz,zg]
  by_cases G:a∈T
  .simp[G]
  .have Y:=tg (part:=λa=>lettersR p r a w.Loop) Z T
   have:=E T m
   rw[app1 (by omega) rfl,mP hr hs L M t (by rw[DZ,Y,g9];omega)]
   simp[G]) (r.In.length+1) (2 ^ 64) [] (runR r (ltW w) w.Stem.length) (by simp) (by omega) (by simp) (by simp) j.1 j.2
 obtain⟨T,z,d,v,N,aa,O,P,Q,ab,R⟩:=tO (X:=X) (part:=λa=>lettersR p r a w.Loop) (b:=λa=>behindR r a w.Loop) (f:=λc=>runR r (ltW w) (w.Stem.length+c * w.Loop.length)) (s:=w.Stem.length) i (λc=>(D c).2) (λc=>(D c).1.symm) C (by rw[Nat.zero_mul];exact j.1) (by rw[Nat.zero_mul];exact j.2)
 rw[show w.Stem.length+0 * w.Loop.length=w.Stem.length by omega]at v
 obtain⟨U,V⟩:=zM X (w.Stem.length+d * w.Loop.length) ((T.length-d) * w.Loop.length)
 rw[v]at k
 dsimp only at k
 rw[P,List.flatMap_nil,F8]at k
 have ad:=E T O
 have ae:d * w.Loop.length<=r.In.length * w.Loop.length:=Nat.mul_le_mul_right _ (by omega)
 have W:∀b,0<=X b/\X b<ltr p:=λb=>by rw[← hX];exact sL hr l b
 refine⟨⟨seg X 0 (w.Stem.length+d * w.Loop.length),seg X (w.Stem.length+d * w.Loop.length) ((T.length-d) * w.Loop.length)⟩,?_,zO W (by omega) (by omega) Q,R,l⟩
 unfold lL
 rw[jk,Fz,hs,nt p r hs,hr]
 simp only[Bool.and_self,E5,cond_false,Fz,(eZ F).1,(eZ F).2,xh,H]
 rw[mP hr hs (by omega) (by omega) I (by simp;omega),Fz,FU]
 dsimp only
 rw[e,g,k]
 simp only[Fz,bK,oH]
 rw[N]
 have S:ET .i64 ((w.Stem.length:Int)+ET .i64 ((d:Int) * (w.Loop.length:Int)))=((w.Stem.length+d * w.Loop.length:Nat):Int):=by
  have:((d * w.Loop.length:Nat):Int)=(d:Int) * (w.Loop.length:Int):=by simp
  rw[wr' (z:=(d:Int) * (w.Loop.length:Int)) (by omega) (by omega),wr' (by omega) (by omega)]
  omega
 rw[S,Cz (by rw[g9];omega) (by omega) (by rw[g9];omega),U,V];rfl
end
theorem BU (a b:Int):iy a b=some (decide (a<b)):=by
 unfold iy fj
 simp
theorem CX {i j:Int}(c:0<=i) (d:0<=j) (e:i+j<=1000000):ET .i64 (Int.fdiv (ET .u64 (ET .i64 (i+j))) (2 ^ (min (Int.toNat 1) (IntKind.bits IntKind.u64))))=(i+j) / 2:=by
 have a:(2:Int) ^ (min (Int.toNat 1) (IntKind.bits IntKind.u64))=2:=by decide
 have b:ET .u64 (i+j)=i+j:=by rw[IntKind.wrap_u64];omega
 rw[a,wr' (z:=i+j) (by omega) (by omega),b,AK (by omega),wr' (by omega) (by omega)]
theorem Ar {xs:VI}(h:Asc xs) (hl:xs.length<=100000) (x:Int):∃p,dp xs x=some (p,decide (x∈xs)):=by
 obtain⟨E,F,G⟩:=cE (f:=cW xs x) (λc (a:Int×Int)=>0<=a.1/\a.1<=a.2/\a.2<=xs.length/\a.2-a.1+c<=xs.length/\(∀(k:Nat) y,(k:Int)<a.1->xs[k]? =some y->y<x)/\(∀(k:Nat) y,a.2<=(k:Int)->xs[k]? =some y->x<=y)) (λ_=>False)
  (λa=>a.1=a.2/\0<=a.1/\a.2<=xs.length/\(∀(k:Nat) y,(k:Int)<a.1->xs[k]? =some y->y<x)/\(∀(k:Nat) y,a.2<=(k:Int)->xs[k]? =some y->x<=y)) xs.length
  (λc a ⟨g,C,s,D,i,j⟩=>by
   obtain⟨b,l⟩:=a
   dsimp only at g C s D i j ⊢
   unfold cW
   dsimp only
   by_cases m:b<l
   .have n:=CX (i:=b) (j:=l) g (by omega) (by omega)
    obtain⟨y,hy,_⟩:=eB (xs:=xs) (z:=(b+l) / 2) (by omega) (by omega)
    simp only[m,decide_true,cond_true,n,hy,Fz,BU]
    obtain⟨w,u⟩:=dy (z:=(b+l) / 2) (by omega)
    rw[u,bH]at hy
    rw[u]
    by_cases d:y<x
    .simp only[d,decide_true,cond_true,Fz]
     rw[wr' (by omega) (by omega)]
     refine⟨_,rfl,by omega,?_,?_,?_,?_,?_,j⟩
     .dsimp only;omega
     .dsimp only;omega
     .dsimp only;omega
     .dsimp only;omega
     .intro k z hk e
      dsimp only at hk
      by_cases q:k=w
      .subst q;rw[hy]at e;cases e;exact d
      .have:=lI h e hy (by omega);omega
    .simp only[d,decide_false,cond_false,Fz]
     refine⟨_,rfl,by omega,g,?_,?_,?_,i,?_⟩
     .dsimp only;omega
     .dsimp only;omega
     .dsimp only;omega
     .intro k z hk e
      dsimp only at hk
      by_cases q:k=w
      .subst q;rw[hy]at e;cases e;omega
      .have:=lI h hy e (by omega);omega
   .simp only[m,decide_false,cond_false]
    exact⟨_,rfl,by dsimp only;omega,g,by dsimp only;omega,i,j⟩)
  (2 ^ 64) 0 (0,(xs.length:Int)) (by omega) ⟨Int.le_refl 0,by dsimp only;omega,by dsimp only;omega,by dsimp only;omega,λk y hk=>by dsimp only at hk;omega,λk y hk hy=>by have:=(DX.1 hy).1;dsimp only at hk;omega⟩ (by omega)
 match E,G with
 |.inr a,⟨t,g,s,i,j⟩=>
  obtain⟨b,l⟩:=a
  dsimp only at t g s i j
  subst t
  obtain⟨b,rfl⟩:=dy g
  refine⟨(b:Int),?_⟩
  unfold dp
  rw[F,Fz,bK]
  dsimp only
  by_cases m:(b:Int)<(xs.length:Int)
  .have hy:xs[b]? =some (xs[b]'(by omega)):=o7 (by omega)
   have B:=j b _ (by omega) hy
   have v:=List.getElem_mem (show b<xs.length by omega)
   generalize xs[b]'(by omega)=y at hy B v
   simp only[m,decide_true,cond_true,bH,hy,Fz]
   by_cases d:y=x
   .subst d
    simp[v]
   .have A:(y==x)=false:=by simp[d]
    have r:x∉xs:=λn=>by
     obtain⟨k,hk⟩:=List.mem_iff_getElem?.1 n
     rcases Nat.lt_trichotomy k b with o|o|o
     .have:=i k x (by omega) hk;omega
     .subst o;rw[hy]at hk;exact d (EU hk)
     .have:=lI h hy hk o;omega
    unfold ec
    simp[A,r]
  .have r:x∉xs:=λn=>by
    obtain⟨k,hk⟩:=List.mem_iff_getElem?.1 n
    have:=(DX.1 hk).1
    have:=i k x (by omega) hk
    omega
   simp[m,r]
theorem va {xs ys:VI}(h:Asc ys) (hl:ys.length<=100000) (hx:xs.length<=100000):oC xs ys=some (xs.filter λx=> !decide (x∈ys)):=by
 unfold oC
 obtain⟨b,d,e⟩:=bR (f:=lS xs ys) (λa b=>b=(xs.take a).filter λx=> !decide (x∈ys)) xs.length (s:=[]) rfl (λa b g hs=>by
  subst hs
  have c:xs[a]? =some xs[a]:=by simp[g]
  obtain⟨p,hp⟩:=Ar h hl xs[a]
  have i:((xs.take a).filter λx=> !decide (x∈ys)).length<=100000:=Fw (Fg ..) (by rw[EB];omega)
  unfold lS
  rw[bH,c,Fz,hp,Fz,Ft,c]
  simp only[Gf,FD]
  cases hd:decide (xs[a]∈ys) with
  |true=>
   refine⟨_,rfl,?_⟩
   simp only[decide_eq_true_eq]at hd
   simp[hd]
  |false=>
   simp only[FA,cond_true]
   rw[app1 (by omega) rfl]
   refine⟨_,rfl,?_⟩
   simp only[decide_eq_false_iff_not]at hd
   simp[hd])
 rw[d,e,Fv]
 rfl
section
variable {n:Nat}{xs ys:VI}(hn:n<=256) (hx:St n xs) (hy:St n ys)
include hn hx hy
theorem o6:na xs ys=some true:=by
 have a:=hx.len
 have b:=hy.len
 unfold na
 rw[mi (by omega) (by omega) (by omega),hx.ok (by omega),Fz,cond_true,mi (by omega) (by omega) (by omega),hy.ok (by omega)]
 rfl
theorem sa:m0 xs ys=some (xs.filter λx=>decide (x∈ys)):=by
 have i:=hx.len
 unfold m0
 rw[o6 hn hx hy,Fz,E5,cond_false]
 obtain⟨b,d,e⟩:=bR (f:=mf xs ys) (λa b=>b=(xs.take a).filter λx=>decide (x∈ys)) xs.length (s:=[]) rfl (λa b g hs=>by
  subst hs
  have c:xs[a]? =some xs[a]:=by simp[g]
  generalize xs[a]=x at c
  have j:((xs.take a).filter λx=>decide (x∈ys)).length<=100000:=Fw (Fg ..) (by rw[EB];omega)
  unfold mf
  rw[bH,c,Fz,qh,Fz,Ft,c]
  simp only[Gf,FD]
  by_cases hd:x∈ys
  .simp only[decide_eq_true hd,cond_true,Fz]
   rw[app1 (by omega) rfl]
   exact⟨_,rfl,by simp[hd]⟩
  .simp only[decide_eq_false hd,cond_false]
   exact⟨_,rfl,by simp[hd]⟩)
 rw[d,e,Fv]
 rfl
theorem xP:qY xs ys=some (xs.filter λx=> !decide (x∈ys)):=by
 have i:=hx.len
 unfold qY
 rw[o6 hn hx hy,Fz,E5,cond_false]
 obtain⟨b,d,e⟩:=bR (f:=me xs ys) (λa b=>b=(xs.take a).filter λx=> !decide (x∈ys)) xs.length (s:=[]) rfl (λa b g hs=>by
  subst hs
  have c:xs[a]? =some xs[a]:=by simp[g]
  generalize xs[a]=x at c
  have j:((xs.take a).filter λx=> !decide (x∈ys)).length<=100000:=Fw (Fg ..) (by rw[EB];omega)
  unfold me
  rw[bH,c,Fz,qh,Fz,Ft,c]
  simp only[Gf,FD]
  by_cases hd:x∈ys
  .simp only[decide_eq_true hd,E5,cond_false]
   exact⟨_,rfl,by simp[hd]⟩
  .simp only[decide_eq_false hd,FA,cond_true,Fz]
   rw[app1 (by omega) rfl]
   exact⟨_,rfl,by simp[hd]⟩)
 rw[d,e,Fv]
 rfl
theorem xN:∃R,qX xs ys=some R/\St n R/\∀z,z∈R↔z∈xs\/z∈ys:=by
 have r:=hx.len
 unfold qX
 rw[o6 hn hx hy,Fz,E5,cond_false,wg (by omega),Fz]
 obtain⟨a,k,l,g⟩:=bR (f:=l9 ys) (λb a=>St n a/\∀z,z∈a↔z∈xs\/z∈ys.take b) ys.length (s:=xs) ⟨hx,λz=>by simp⟩ (λb a m ⟨d,j⟩=>by
  have c:ys[b]? =some ys[b]:=by simp[m]
  generalize ys[b]=y at c
  obtain⟨R,p,q,i⟩:=tH d.asc y (by have:=d.len;omega)
  unfold l9
  rw[bH,c,Fz,p,Fz]
  refine⟨_,rfl,⟨q,λx o=>?_⟩,λz=>?_⟩
  .rcases(i x).1 o with e|e
   .subst e;exact hy.rng x (EF c)
   .exact d.rng x e
  .rw[i,j,Ft,c]
   simp only[Gf,D2,D4]
   constructor
   .rintro(h|h|h) <;> simp[h]
   .rintro(h|h|h) <;> simp[h])
 rw[Fv]at g
 rw[k,Fz,bK]
 exact⟨a,rfl,l,g⟩
end
section
open Classical
structure BF (row:Int->VI) (Y S0 Base Src:Int->Prop) (n:Nat) (cur:Int->VI->Prop) (todo:VI) (out:VB):Prop where
 len:out.length=n
 sound:∀x,In out x->Src x
 base:∀x,Base x->In out x
 tod:∀x∈todo,S0 x\/In out x
 clo:∀x,S0 x\/In out x->x∈todo\/(∃T,cur x T/\∀u∈T,Y u->In out u)\/∀u∈row x,Y u->In out u
section
variable {row:Int->VI}{Y S0 Base Src:Int->Prop}{n:Nat}{cur:Int->VI->Prop}{todo todo':VI}{out:VB}{c:Int}
def noC:Int->VI->Prop:=λ_ _=>False
def onC (c:Int) (T:VI):Int->VI->Prop:=λx T'=>x=c/\T'=T
theorem BF.pop (h:BF row Y S0 Base Src n noC todo out) (b:∀x∈todo,x=c\/x∈todo') (d:∀x∈todo',x∈todo):BF row Y S0 Base Src n (onC c []) todo' out:=by
 refine⟨h.len,h.sound,h.base,λx hx=>h.tod x (d x hx),λx hx=>?_⟩
 rcases h.clo x hx with k|⟨T,k,_⟩|k
 .rcases b x k with a|a
  .exact .inr (.inl ⟨[],⟨a,rfl⟩,λu e=>by cases e⟩)
  .exact .inl a
 .exact k.elim
 .exact .inr (.inr k)
theorem BF.done (h:BF row Y S0 Base Src n (onC c (row c)) todo out):BF row Y S0 Base Src n noC todo out:=by
 refine⟨h.len,h.sound,h.base,h.tod,λx hx=>?_⟩
 rcases h.clo x hx with k|⟨T,⟨a,b⟩,k⟩|k
 .exact .inl k
 .subst a b
  exact .inr (.inr k)
 .exact .inr (.inr k)
theorem BF.skip {T:VI}{u:Int}(h:BF row Y S0 Base Src n (onC c T) todo out) (e:Y u->In out u):BF row Y S0 Base Src n (onC c (T++[u])) todo out:=by
 refine⟨h.len,h.sound,h.base,h.tod,λx hx=>?_⟩
 rcases h.clo x hx with k|⟨T',⟨b,d⟩,k⟩|k
 .exact .inl k
 .subst b d
  refine .inr (.inl ⟨_,⟨rfl,rfl⟩,λf a=>?_⟩)
  rcases D2.1 a with a|a
  .exact k f a
  .rw[D4]at a
   subst a;exact e
 .exact .inr (.inr k)
theorem BF.mark {T:VI}{u:Int}{f:VB}(h:BF row Y S0 Base Src n (onC c T) todo out) (hs:setI out u true=some f) (l:Src u):BF row Y S0 Base Src n (onC c (T++[u])) (todo++[u]) f:=by
 have d:∀x,In f x↔x=u\/In out x:=λx=>by
  unfold In
  rw[cP hs]
  by_cases a:x=u
  .rw[if_pos a];simp[a]
  .rw[if_neg a];simp[a]
 have hl:f.length=out.length:=(n9 hs).2.2.2 
 refine⟨hl.trans h.len,λx hx=>?_,λx hx=>(d x).2 (.inr (h.base x hx)),λx hx=>?_,λx hx=>?_⟩
 .rcases(d x).1 hx with a|a
  .subst a;exact l
  .exact h.sound x a
 .rcases D2.1 hx with hx|hx
  .exact(h.tod x hx).imp id λk=>(d x).2 (.inr k)
  .rw[D4]at hx
   exact .inr ((d x).2 (.inl hx))
 .have g:x=u\/(S0 x\/In out x):=by
   rcases hx with k|k
   .exact .inr (.inl k)
   .rcases(d x).1 k with a|a
    .exact .inl a
    .exact .inr (.inr a)
  rcases g with a|g
  .exact .inl (List.mem_append_right _ (by simp[a]))
  .rcases h.clo x g with k|⟨T',⟨i,j⟩,k⟩|k
   .exact .inl (Gb _ k)
   .subst i j
    refine .inr (.inl ⟨_,⟨rfl,rfl⟩,λe b hy=>(d e).2 ?_⟩)
    rcases D2.1 b with b|b
    .exact .inr (k e b hy)
    .rw[D4]at b
     exact .inl b
   .exact .inr (.inr λe b hy=>(d e).2 (.inr (k e b hy)))
theorem BF.fin (h:BF row Y S0 Base Src n noC [] out) (a:∀C:Int->Prop,(∀x,Base x->C x)->(∀x u,S0 x\/C x->u∈row x->Y u->C u)->∀x,Src x->C x) (x:Int):In out x↔Src x:=by
 refine⟨h.sound x,a _ h.base (λy u hy b hY=>?_) x⟩
 rcases h.clo y hy with k|⟨T,k,_⟩|k
 .cases k
 .exact k.elim
 .exact k u b hY
noncomputable def msr (n:Nat) (todo:VI) (out:VB):Nat:=todo.length+2 * (n-cnt out)
theorem A0 {a:VB}{u:Int}(hl:out.length=n) (hs:setI out u true=some a) (hn:¬In out u):msr n (todo++[u]) a+1<=msr n todo out:=by
 have c:∀x,In a x↔x=u\/In out x:=λx=>by
  unfold In
  rw[cP hs]
  by_cases b:x=u
  .rw[if_pos b];simp[b]
  .rw[if_neg b];simp[b]
 have g:a.length=out.length:=(n9 hs).2.2.2 
 have e:=ta (A:=out) (B:=a) (λv d=>(c v).2 (.inr d)) ((c u).2 (.inl rfl)) hn
 have f:=jg a
 unfold msr
 rw[DZ]
 simp only[D0,Fi]
 omega
variable {N:VV}{low:VB}(hR:∀v:Int,0<=v->v<n->idx N v=some (row v)/\(row v).length<=10000/\∀u∈row v,0<=u/\u<n) (hn:n<=256) (hl:low.length=n) (hY:∀v,In low v↔Y v) (hstep:∀x u,S0 x\/Src x->u∈row x->Y u->Src u)
include hR hn hl hY hstep
omit hn in
theorem we (c0:0<=c) (c1:c<n) (h:BF row Y S0 Base Src n (onC c []) todo out) (C:S0 c\/In out c) (M:todo.length<=100000):∃p todo' v,bQ (gV N low c) (2 ^ 64) (todo,0,out)=some (.inr (todo',p,v))/\BF row Y S0 Base Src n noC todo' v/\msr n todo' v<=msr n todo out:=by
 obtain⟨G,P,H⟩:=hR c c0 c1
 obtain⟨F,I,r⟩:=cE (f:=gV N low c) (λb (a:VI×Int×VB)=>a.2.1=(b:Int)/\b<=(row c).length/\BF row Y S0 Base Src n (onC c ((row c).take b)) a.1 a.2.2/\(∀x,In out x->In a.2.2 x)/\msr n a.1 a.2.2<=msr n todo out/\a.1.length<=100000+b) (λ_=>False) (λa=>BF row Y S0 Base Src n (onC c (row c)) a.1 a.2.2/\msr n a.1 a.2.2<=msr n todo out) (row c).length (λb a ⟨y,K,d,e,i,z⟩=>by
  obtain⟨q,O,a⟩:=a
  dsimp only at y d e i z
  subst y
  unfold gV
  dsimp only
  rw[G,Fz]
  by_cases l:b<(row c).length
  .have t:ET .i64 ((b:Int)+1)=((b+1:Nat):Int):=by rw[wr' (by omega) (by omega)];omega
   have g:(row c)[b]? =some (row c)[b]:=o7 l
   generalize(row c)[b]=u at g
   obtain⟨w,R⟩:=H u (EF g)
   have s:(row c).take (b+1)=(row c).take b++[u]:=by rw[Ft,g];rfl
   have E:=d.len
   rw[decide_eq_true (show(b:Int)<((row c).length:Int) by omega),cond_true,Fz,bH,g,Fz,cS (B:=low) w (by omega),Fz,cS (B:=a) w (by omega)]
   by_cases hy:In low u
   .by_cases m:In a u
    .simp only[decide_eq_true hy,decide_eq_true m,cond_true,Fz,E5,cond_false,t]
     exact⟨_,rfl,l,rfl,by omega,by rw[s];exact d.skip λ_=>m,e,i,by dsimp only;omega⟩
    .obtain⟨Q,o,_⟩:=cL (xs:=a) (i:=u) true w (by omega)
     have L:=A0 (n:=n) (todo:=q) E o m
     have D:S0 c\/Src c:=C.imp id λk=>d.sound c (e c k)
     simp only[decide_eq_true hy,decide_eq_false m,cond_true,Fz,FA,o,app1 (show q.length<=10000000000 by omega) (show Nat.ble 8 1024=true from rfl),t]
     refine⟨_,rfl,l,rfl,by omega,by rw[s];exact d.mark o (hstep c u D (EF g) ((hY u).1 hy)),λx hx=>?_,by dsimp only;omega,by simp;omega⟩
     have:=e x hx
     dsimp only at this ⊢
     unfold In at this ⊢
     rw[cP o]
     by_cases j:x=u
     .rw[if_pos j]
     .rw[if_neg j];exact this
   .simp only[decide_eq_false hy,cond_false,Fz,t]
    exact⟨_,rfl,l,rfl,by omega,by rw[s];exact d.skip λA=>absurd ((hY u).2 A) hy,e,i,by dsimp only;omega⟩
  .rw[decide_eq_false (by omega),cond_false]
   have j:b=(row c).length:=by omega
   subst j
   rw[Fv]at d
   exact⟨_,rfl,d,i⟩) (2 ^ 64) 0 (todo,0,out) (by omega) ⟨rfl,by omega,h,λ_ h=>h,Ec _,by omega⟩ (by omega)
 match F,r with
 |.inr (q,p,a),r=>exact⟨p,q,a,I,r.1.done,r.2⟩
theorem Bm (hN:N.length=n) (c0:0<=c) (c1:c<n) (hS:∀x,S0 x↔x=c) (q:∀x,¬Base x) (s:∀C:Int->Prop,(∀x,Base x->C x)->(∀x u,S0 x\/C x->u∈row x->Y u->C u)->∀x,Src x->C x):∃R,lw N low [c]=some R/\R.length=n/\∀x,In R x↔Src x:=by
 unfold lw
 rw[hN,de (by omega) rfl,Fz,show dj [c]=some [c] from by unfold dj;rw[appL (by simp) rfl];rfl,Fz]
 have l:∀x,¬In (EH n false) x:=λx hx=>by
  obtain⟨E,K⟩:=dU (n:=n) (by simp) hx
  unfold In at hx
  rw[cB E,FF,if_pos (by omega)]at hx
  cases hx
 obtain⟨B,D,i⟩:=cE (f:=jR N low) (λp (b:VI×VB)=>BF row Y S0 Base Src n noC b.1 b.2/\p+msr n b.1 b.2<=3 * n+1) (λ_=>False) (λb=>BF row Y S0 Base Src n noC [] b.2) (3 * n+1) (λp b ⟨d,e⟩=>by
  obtain⟨j,b⟩:=b
  dsimp only at d e
  unfold jR
  dsimp only
  have F:j.length<=1000:=by unfold msr at e;omega
  rcases List.eq_nil_or_concat j with g|⟨a,y,g⟩
  .subst g
   simp only[Fi,Int.natCast_zero,Int.lt_irrefl,decide_false,cond_false]
   exact⟨_,rfl,d⟩
  .rw[List.concat_eq_append]at g
   subst g
   have m:(a++[y]).length=a.length+1:=by simp
   have v:ET .i64 (((a++[y]).length:Int)-1)=(a.length:Int):=by rw[m,wr' (by omega) (by omega)];omega
   have r:idx (a++[y]) (a.length:Int)=some y:=by rw[bH,List.getElem?_append_right (Ec _),Nat.sub_self];rfl
   have t:subS (a++[y]) 0 (a.length:Int)=some a:=by
    unfold subS
    rw[if_pos ⟨by omega,by omega,by rw[m];omega⟩]
    simp
   have o:0<=y/\y<n:=by
    rcases d.tod y (by simp) with k|k
    .rw[(hS y).1 k];exact⟨c0,c1⟩
    .exact dU d.len k
   rw[decide_eq_true (show(0:Int)<((a++[y]).length:Int) by omega),cond_true,v,r,Fz,t,Fz]
   obtain⟨G,H,I,w,z,A⟩:=we hR hl hY hstep o.1 o.2 (d.pop (c:=y) (todo':=a) (λx hx=>by
    rcases D2.1 hx with h|h
    .exact .inr h
    .exact .inl (by simpa using h)) (λx hx=>Gb _ hx)) (d.tod y (by simp)) (by omega)
   rw[w,Fz,bK]
   refine⟨_,rfl,?_,z,?_⟩
   .unfold msr at e;omega
   .dsimp only
    unfold msr at e A ⊢
    omega) (2 ^ 64) 0 ([c],EH n false) (by omega) ⟨⟨by simp,λx hx=>absurd hx (l x),λx hx=>absurd hx (q x),λx hx=> .inl ((hS x).2 (by simpa using hx)),λx hx=> .inl (by
   rcases hx with k|k
   .rw[(hS x).1 k];simp
   .exact absurd k (l x))⟩,by unfold msr;simp;omega⟩ (by omega)
 match B,i with
 |.inr (j,b),i=>
  rw[D,Fz,bK]
  exact⟨b,rfl,i.len,i.fin s⟩
end
end
section
open Classical
inductive Wy (sc:Int->VI) (D:Int->Prop):Int->Int->Prop
 |one {x} (h:¬D x):Wy sc D x x
 |cons {x y z} (h:¬D x) (e:y∈sc x) (w:Wy sc D y z):Wy sc D x z
namespace Wy
variable {sc bk:Int->VI}{D D':Int->Prop}{x y z:Int}
theorem first (w:Wy sc D x y):¬D x:=by cases w <;> assumption
theorem last (w:Wy sc D x y):¬D y:=by induction w <;> assumption
theorem trans (w:Wy sc D x y) (v:Wy sc D y z):Wy sc D x z:=by
 induction w with
 |one _=>exact v
 |cons h a _ b=>exact .cons h a (b v)
theorem snoc (w:Wy sc D x y) (a:z∈sc y) (h:¬D z):Wy sc D x z:=w.trans (.cons w.last a (.one h))
theorem mono (h:∀x,D' x->D x) (w:Wy sc D x y):Wy sc D' x y:=by
 induction w with
 |one k=>exact .one λd=>k (h _ d)
 |cons k a _ b=>exact .cons (λd=>k (h _ d)) a b
theorem rev (b:∀x y,y∈bk x->x∈sc y) (w:Wy bk D x y):Wy sc D y x:=by
 induction w with
 |one k=>exact .one k
 |cons k a _ c=>exact c.snoc (b _ _ a) k
theorem closed {T:Int->Prop}(d:∀b a,T b->a∈sc b->¬D a->T a) (w:Wy sc D x y) (hx:T x):T y:=by
 induction w with
 |one _=>exact hx
 |cons _ c w e=>exact e (d _ _ hx c w.first)
theorem either {T:Int->Prop}(f:∀a d,T a->d∈sc a->¬D d->T d) (w:Wy sc D x y):T y\/Wy sc (λa=>D a\/T a) x y:=by
 induction w with
 | @one x k=>
  by_cases c:T x
  .exact .inl c
  .exact .inr (.one λh=>h.elim k c)
 | @cons x y z k e w b=>
  rcases b with b|b
  .exact .inl b
  .by_cases c:T x
   .exact .inl (w.closed f (f _ _ c e w.first))
   .exact .inr (.cons (λh=>h.elim k c) e b)
theorem avoid {u:Int}(w:Wy sc D x y):Wy sc D x u\/Wy sc (λc=>D c\/c=u) x y:=by
 induction w with
 | @one x k=>
  by_cases b:x=u
  .subst b;exact .inl (.one k)
  .exact .inr (.one λh=>h.elim k b)
 | @cons x y z k d w a=>
  rcases a with a|a
  .exact .inl (.cons k d a)
  .by_cases b:x=u
   .subst b;exact .inl (.one k)
   .exact .inr (.cons (λh=>h.elim k b) d a)
end Wy
inductive Dfs (sc:Int->VI):(Int->Prop)->VI->VI->Prop
 |nil {D}:Dfs sc D [] []
 |skip {D u us S} (h:D u) (k:Dfs sc D us S):Dfs sc D (u::us) S
 |step {D u us S1 S2} (h:¬D u) (k1:Dfs sc (λx=>D x\/x=u) (sc u) S1) (k2:Dfs sc (λx=>D x\/x=u\/x∈S1) us S2):Dfs sc D (u::us) (S1++u::S2)
namespace Dfs
variable {sc bk:Int->VI}{D:Int->Prop}{us S:VI}
theorem out (k:Dfs sc D us S):∀x∈S,¬D x:=by
 induction k with
 |nil=>intro x h;cases h
 |skip _ _ ih=>exact ih
 |step h _ _ b c=>
  intro x hx
  rcases D2.1 hx with hx|hx
  .exact λd=>b x hx (.inl d)
  .rcases D3.1 hx with a|hx
   .subst a;exact h
   .exact λd=>c x hx (.inl d)
theorem nodup (k:Dfs sc D us S):S.Nodup:=by
 induction k with
 |nil=>exact List.nodup_nil
 |skip _ _ ih=>exact ih
 |step h g c e f=>
  refine Fo.2 ⟨e,FJ.2 ⟨λd=>c.out _ d (.inr (.inl rfl)),f⟩,λi ha j b a=>?_⟩
  subst a
  rcases D3.1 b with a|b
  .exact g.out _ ha (.inr a)
  .exact c.out _ b (.inr (.inr ha))
theorem clo (k:Dfs sc D us S):(∀u∈us,D u\/u∈S)/\∀x∈S,∀y∈sc x,D y\/y∈S:=by
 induction k with
 |nil=>exact⟨λu h=>(by cases h),λu h=>(by cases h)⟩
 |skip h _ ih=>
  refine⟨λu f=>?_,ih.2⟩
  rcases D3.1 f with a|f
  .subst a;exact .inl h
  .exact ih.1 u f
 | @step D u us c e h m n j l=>
  have g:∀y,(D y\/y=u)\/y∈c->D y\/y∈c++u::e:=λy hy=>by
   rcases hy with (d|a)|b
   .exact .inl d
   .subst a;exact .inr (by simp)
   .exact .inr (by simp[b])
  have i:∀y,(D y\/y=u\/y∈c)\/y∈e->D y\/y∈c++u::e:=λy hy=>by
   rcases hy with (d|a|b)|b
   .exact .inl d
   .subst a;exact .inr (by simp)
   .exact .inr (by simp[b])
   .exact .inr (by simp[b])
  refine⟨λx hx=>?_,λx hx y hy=>?_⟩
  .rcases D3.1 hx with a|hx
   .subst a;exact .inr (by simp)
   .exact i _ (l.1 x hx)
  .rcases D2.1 hx with hx|hx
   .exact g _ (j.2 x hx y hy)
   .rcases D3.1 hx with a|hx
    .subst a;exact g _ (j.1 y hy)
    .exact i _ (l.2 x hx y hy)
theorem sound (k:Dfs sc D us S):∀x∈S,∃u∈us,Wy sc D u x:=by
 induction k with
 |nil=>intro x h;cases h
 |skip _ _ ih=>
  intro x hx
  obtain⟨u,a,b⟩:=ih x hx
  exact⟨u,ED _ a,b⟩
 | @step D u us i j h l m f g=>
  intro x hx
  rcases D2.1 hx with hx|hx
  .obtain⟨c,a,b⟩:=f x hx
   exact⟨u,by simp,.cons h a (b.mono λ_ d=> .inl d)⟩
  .rcases D3.1 hx with e|hx
   .subst e;exact⟨x,by simp,.one h⟩
   .obtain⟨c,a,b⟩:=g x hx
    exact⟨c,ED _ a,b.mono λ_ d=> .inl d⟩
theorem mem_iff (k:Dfs sc D us S) (x:Int):x∈S↔∃u∈us,Wy sc D u x:=by
 refine⟨k.sound x,λ⟨u,d,c⟩=>?_⟩
 have e:∀a b,a∈S->b∈sc a->¬D b->b∈S:=λa b ha f hd=>(k.clo.2 a ha b f).resolve_left hd
 exact c.closed (T:=λa=>a∈S) e ((k.clo.1 u d).resolve_left c.first)
theorem kos (k:Dfs sc D us S):∀x∈S,∀v,Wy sc D x v->∃e,Wy sc D x e/\Wy sc D e x/\∃A B,S=A++e::B/\(v∈A\/v=e):=by
 induction k with
 |nil=>intro x h;cases h
 |skip _ _ ih=>exact ih
 | @step D u us f o h p I E F=>
  intro x hx v m
  have t:∀a i,(a∈f\/a=u)->i∈sc a->¬D i->(i∈f\/i=u):=λa i ha w hd=>by
   have:(D i\/i=u)\/i∈f:=by
    rcases ha with ha|ha
    .exact p.clo.2 a ha i w
    .subst ha;exact p.clo.1 i w
   rcases this with (d|b)|g
   .exact absurd d hd
   .exact .inr b
   .exact .inl g
  have s:Wy sc D x u->(x∈f\/x=u)->∃e,Wy sc D x e/\Wy sc D e x/\∃A B,f++u::o=A++e::B/\(v∈A\/v=e):=λn y=>by
   refine⟨u,n,?_,f,o,rfl,m.closed (T:=λa=>a∈f\/a=u) t y⟩
   rcases y with g|b
   .obtain⟨c,z,C⟩:=p.sound x g
    exact .cons h z (C.mono λ_ d=> .inl d)
   .subst b;exact .one h
  rcases D2.1 hx with g|g
  .by_cases n:Wy sc D x u
   .exact s n (.inl g)
   .rcases m.avoid (u:=u) with k|k
    .exact absurd k n
    .obtain⟨e,q,r,A,B,b,j⟩:=E x g v k
     exact⟨e,q.mono λ_ d=> .inl d,r.mono λ_ d=> .inl d,A,B++u::o,by rw[b];simp,j⟩
  .rcases D3.1 g with b|g
   .subst b;exact s (.one m.first) (.inr rfl)
   .rcases m.either (T:=λa=>a∈f\/a=u) t with l|l
    .obtain⟨A,B,b⟩:=List.append_of_mem g
     refine⟨x,.one m.first,.one m.first,f++u::A,B,by rw[b];simp,.inl ?_⟩
     rcases l with l|l
     .simp[l]
     .simp[l]
    .have H:Wy sc (λa=>D a\/a=u\/a∈f) x v:=l.mono λa ha=>by
      rcases ha with d|b|G
      .exact .inl d
      .exact .inr (.inr b)
      .exact .inr (.inl G)
     obtain⟨e,q,r,A,B,b,j⟩:=F x g v H
     refine⟨e,q.mono λ_ d=> .inl d,r.mono λ_ d=> .inl d,f++u::A,B,by rw[b];simp,?_⟩
     rcases j with j|j
     .exact .inl (by simp[j])
     .exact .inr j
end Dfs
inductive Kos (bk:Int->VI):(Int->Prop)->VI->VV->Prop
 |nil {D}:Kos bk D [] []
 |skip {D v R P} (h:D v) (k:Kos bk D R P):Kos bk D (v::R) P
 |step {D v R S P} (h:¬D v) (d:Dfs bk D [v] S) (k:Kos bk (λx=>D x\/x∈S) R P):Kos bk D (v::R) (S::P)
def noV:Int->Prop:=λ_=>False
def Akin (sc:Int->VI) (x y:Int):Prop:=Wy sc noV x y/\Wy sc noV y x
section
variable {sc bk:Int->VI}
theorem Akin.refl (x:Int):Akin sc x x:=⟨.one id,.one id⟩
theorem Akin.symm {x y:Int}(h:Akin sc x y):Akin sc y x:=⟨h.2,h.1⟩
theorem Akin.trans {x y z:Int}(h:Akin sc x y) (k:Akin sc y z):Akin sc x z:=⟨h.1.trans k.1,k.2.trans h.2⟩
theorem ahead {Q R A B:VI}{v y:Int}(hn:(Q++v::R).Nodup) (c:Q++v::R=B++y::A) (h:v∈A):y∈Q:=by
 have hy:y∈Q++v::R:=by rw[c];simp
 rcases D2.1 hy with e|e
 .exact e
 .exfalso
  have g:(B++y::A).Nodup:=by rw[← c];exact hn
  obtain⟨o,p,l⟩:=Fo.1 hn
  obtain⟨n,f,k⟩:=Fo.1 g
  have i:v∉B:=λj=>k v j v (ED _ h) rfl
  -- v stands in A, so B ++ [y] is ahead of it: it is a part of Q
  rcases List.append_eq_append_iff.1 c with ⟨T,d,b⟩|⟨T,d,b⟩
  .cases T with
   |nil=>
    rw[FU]at b
    injection b with e3 e4
    subst e3
    exact(FJ.1 f).1 h
   |cons m T=>
    injection b with e3 e4
    subst e3
    exact i (by rw[d];simp)
  .cases T with
   |nil=>
    rw[FU]at b
    injection b with e3 e4
    subst e3
    exact(FJ.1 f).1 h
   |cons m T=>
    injection b with e3 e4
    subst e3
    exact l y (by rw[d];simp) y e rfl
theorem zZ {L:VI}(I:∀x y,y∈bk x↔x∈sc y){ac:VI}(hd:Dfs sc noV ac L) (X:∀f g,g∈sc f->f∈L):
 ∀(D:Int->Prop) (R:VI) (P:VV),Kos bk D R P->∀Q,L.reverse=Q++R->(∀x,D x↔∃i∈Q,Akin sc i x) ->
 (∀S∈P,S.Nodup/\∃v∈R,(¬D v)/\∀x,x∈S↔Akin sc v x)/\(∀v∈R,D v\/∃S∈P,v∈S)/\P.Pairwise (λS T=>∀x∈S,x∉T)/\∀S∈P,∀x∈S,¬D x:=by
 intro D R P hk
 induction hk with
 |nil=>exact λQ _ _=>⟨λS h=>(by cases h),λS h=>(by cases h),List.Pairwise.nil,λS h=>by cases h⟩
 | @skip D v R P h k s=>
  intro Q n m
  obtain⟨E,F,G,w⟩:=s (Q++[v]) (by rw[n];simp) (λx=>by
   rw[m]
   refine⟨λ⟨i,e,b⟩=>⟨i,by simp[e],b⟩,λ⟨i,e,b⟩=>?_⟩
   rcases D2.1 e with l|l
   .exact⟨i,l,b⟩
   .rw[D4]at l
    subst l
    obtain⟨p,q,H⟩:=(m i).1 h
    exact⟨p,q,H.trans b⟩)
  refine⟨λS hS=>?_,λx hx=>?_,G,w⟩
  .obtain⟨e,y,b,q⟩:=E S hS
   exact⟨e,y,ED _ b,q⟩
  .rcases D3.1 hx with a|hx
   .subst a;exact .inl h
   .exact F x hx
 | @step D v R S P h d k s=>
  intro Q n m
  have aa:v∈L:=by
   have:v∈L.reverse:=by rw[n];simp
   exact Gc.1 this
  have hS:∀x,x∈S↔Akin sc v x:=λx=>by
   rw[d.mem_iff]
   constructor
   .rintro⟨u,K,o⟩
    rw[D4]at K
    subst K
    have t:=o.rev (sc:=sc) (λf g a=>(I f g).1 a)
    have hx:x∈L:=by
     cases t with
     |one _=>exact aa
     |cons _ a _=>exact X _ _ a
    obtain⟨U,N,O,A,B,a,r⟩:=hd.kos x hx u (t.mono λ_ W=>W.elim)
    rcases r with r|r
    .exfalso
     have V:Q++u::R=B.reverse++U::A.reverse:=by rw[← n,a];simp
     have hn:(Q++u::R).Nodup:=by rw[← n];exact(List.reverse_perm L).nodup_iff.2 hd.nodup
     have Z:=ahead hn V (Gc.2 r)
     exact o.last ((m x).2 ⟨U,Z,O,N⟩)
    .subst r;exact⟨O,N⟩
   .intro hx
    refine⟨v,by simp,?_⟩
    have M:∀y,Akin sc v y->¬D y:=λy hy Y=>by
     obtain⟨i,e,b⟩:=(m y).1 Y
     exact h ((m v).2 ⟨i,e,b.trans hy.symm⟩)
    have ab:∀{f g:Int},Wy sc noV f g->Wy sc noV g f->Akin sc v g->Wy sc D f g:=λ{f g} o=>by
     induction o with
     |one _=>exact λ_ z=> .one (M _ z)
     | @cons f c g h a o s=>exact λt z=> .cons (M _ (z.trans ⟨t,.cons h a o⟩)) a (s (t.snoc a id) z)
    exact(ab hx.2 hx.1 (Akin.refl v)).rev λf g a=>(I g f).2 a
  obtain⟨E,F,G,w⟩:=s (Q++[v]) (by rw[n];simp) (λx=>by
   show(D x\/x∈S)↔_
   rw[m,hS]
   constructor
   .rintro(⟨i,e,b⟩|b)
    .exact⟨i,by simp[e],b⟩
    .exact⟨v,by simp,b⟩
   .rintro⟨i,e,b⟩
    rcases D2.1 e with l|l
    .exact .inl ⟨i,l,b⟩
    .rw[D4]at l
     subst l;exact .inr b)
  refine⟨λT j=>?_,λx hx=>?_,List.pairwise_cons.2 ⟨λT j x hx C=>w T j x C (.inr hx),G⟩,λT j x hx C=>?_⟩
  .rcases D3.1 j with a|j
   .subst a
    exact⟨d.nodup,v,by simp,h,hS⟩
   .obtain⟨e,y,b,q,H⟩:=E T j
    exact⟨e,y,ED _ b,λk=>q (.inl k),H⟩
  .rcases D3.1 hx with a|hx
   .subst a;exact .inr ⟨S,by simp,(hS x).2 (Akin.refl x)⟩
   .rcases F x hx with (k|k)|⟨T,e,b⟩
    .exact .inl k
    .exact .inr ⟨S,by simp,k⟩
    .exact .inr ⟨T,ED _ e,b⟩
  .rcases D3.1 j with a|j
   .subst a;exact d.out x hx C
   .exact w T j x hx (.inl C)
end
end
section
open Classical
def Mk (n:Nat) (d:VB) (S:VI) (a:VB):Prop:=a.length=n/\∀x,In a x↔In d x\/x∈S
theorem Mk.cnt {n:Nat}{d a:VB}{S:VI}(h:Mk n d S a) (hn:S.Nodup) (hd:∀x∈S,¬In d x):cnt d+S.length<=cnt a:=by
 have e:(cG d d.length++S).Nodup:=Fo.2 ⟨kw _ _,hn,λg ha b f c=>hd b f (c ▸ cm.1 ha)⟩
 have:=mW e (ys:=cG a a.length) (λx hx=>cm.2 ((h.2 x).2 ((D2.1 hx).imp cm.1 id)))
 rw[DZ]at this
 exact this
theorem Mk.eq {n:Nat}{d a:VB}{S:VI}(h:Mk n d S a):In a=λx=>In d x\/x∈S:=funext λx=>propext (h.2 x)
theorem Dfs.nil_eq {sc:Int->VI}{D:Int->Prop}{S:VI}(k:Dfs sc D [] S):S=[]:=by cases k;rfl
theorem Dfs.cat {sc:Int->VI}{D:Int->Prop}{u:Int}{us S T:VI}(h:¬D u) (k:Dfs sc D [u] S) (k2:Dfs sc (λx=>D x\/x∈S) us T):Dfs sc D (u::us) (S++T):=by
 generalize e:[u]=l at k
 cases k with
 |nil=>cases e
 |skip b _=>
  injection e with e1 _
  subst e1;exact absurd b h
 | @step _ _ _ a i b f g=>
  injection e with e1 e2
  subst e1 e2
  have c:=g.nil_eq
  subst c
  have d:(λx=>D x\/x∈a++[u])=λx=>D x\/x=u\/x∈a:=funext λx=>propext (by simp only[D2,D4];constructor <;> (rintro(h|h|h) <;> simp[h]))
  rw[d]at k2
  have:=Dfs.step h f k2
  simpa using this
theorem idxB {B:VB}{v:Int}(h:¬In B v) (a:0<=v) (b:v<B.length):idx B v=some false:=by rw[cS a b,decide_eq_false h]
theorem setT {d:VB}{n:Nat}{v:Int}(hd:d.length=n) (b:0<=v) (c:v<n):∃y,setI d v true=some y/\Mk n d [v] y:=by
 obtain⟨y,hy,hl⟩:=cL (xs:=d) (i:=v) true b (by omega)
 refine⟨y,hy,by omega,λx=>?_⟩
 unfold In
 rw[cP hy,D4]
 by_cases a:x=v
 .rw[if_pos a];simp[a]
 .rw[if_neg a];simp[a]
abbrev VS:=VI×VB
theorem qv {z:Type}{f:Int->VS->Option (z⊕(VS⊕VS))}{sc:Int->VI}{M:VB}{n c0:Nat}:
 ∀(us:VI) (j:Nat) (a:VI) (d:VB),
 (∀(i:Nat) u a d,us[i]? =some u->d.length=n->a.length<=cnt d->c0<=cnt d ->
  (¬(In M u/\¬In d u)->f ((j+i:Nat):Int) (a,d)=some (.inr (.inr (a,d)))) /\
  (In M u->¬In d u->∃S b,f ((j+i:Nat):Int) (a,d)=some (.inr (.inr (a++S,b)))/\Mk n d S b/\Dfs sc (In d) [u] S)) ->
 d.length=n->a.length<=cnt d->c0<=cnt d ->
 ∃S b,cntM f us.length (j:Int) (a,d)=some (.inr (a++S,b))/\Mk n d S b/\Dfs sc (In d) (us.filter (λu=>decide (In M u))) S
 | [],j,a,d,_,hd,_,_=>⟨[],d,by rw[F8];rfl,⟨hd,λx=>by simp⟩,.nil⟩
 |u::us,j,a,d,h,hd,ho,hc=>by
  obtain⟨v,w⟩:=h 0 u a d rfl hd ho hc
  have hr:∀(i:Nat) c a d,us[i]? =some c->d.length=n->a.length<=cnt d->c0<=cnt d ->
   (¬(In M c/\¬In d c)->f (((j+1)+i:Nat):Int) (a,d)=some (.inr (.inr (a,d)))) /\
   (In M c->¬In d c->∃S b,f (((j+1)+i:Nat):Int) (a,d)=some (.inr (.inr (a++S,b)))/\Mk n d S b/\Dfs sc (In d) [c] S):=λi c a d y=>by
   have:=h (i+1) c a d (by simpa using y)
   rw[show j+(i+1)=(j+1)+i from by omega]at this
   exact this
  by_cases e:In M u/\¬In d u
  .obtain⟨S,s,t,k,r⟩:=w e.1 e.2
   have A:=k.cnt r.nodup r.out
   obtain⟨T,m,p,l,g⟩:=qv us (j+1) (a++S) s hr k.1 (by rw[DZ];omega) (by omega)
   refine⟨S++T,m,?_,⟨l.1,λx=>?_⟩,?_⟩
   .show EO (f (j:Int) (a,d)) _=_
    have o:f (j:Int) (a,d)=_:=t
    rw[o,Fz]
    show cntM f us.length ((j:Int)+1) (a++S,s)=_
    have:((j:Int)+1)=((j+1:Nat):Int):=rfl
    rw[this,p,Ej]
   .rw[l.2,k.2,D2,or_assoc]
   .rw[Fe,if_pos (by simpa using e.1)]
    rw[k.eq]at g
    exact Dfs.cat e.2 r g
  .obtain⟨T,m,p,l,g⟩:=qv us (j+1) a d hr hd ho hc
   refine⟨T,m,?_,l,?_⟩
   .show EO (f (j:Int) (a,d)) _=_
    have o:f (j:Int) (a,d)=_:=v e
    rw[o,Fz]
    exact p
   .rw[Fe]
    by_cases q:In M u
    .rw[if_pos (by simpa using q)]
     exact .skip (E8 λhn=>e ⟨q,hn⟩) g
    .rw[if_neg (by simpa using q)]
     exact g
theorem yk:∀a,bV a=bN a
 |0=>rfl
 |a+1=>by
  show cD (bV a)=bX (bN a)
  rw[yk a];rfl
theorem y9 {T:VV}{M:VB}{n:Nat}{sc:Int->VI}(D:T.length=n) (q:M.length=n) (hn:n<=256)
 (hr:∀v row,idx T v=some row->∀u∈row,0<=u/\u<n) (hs:∀v row,In M v->idx T v=some row->sc v=row.filter (λu=>decide (In M u))):
 ∀(m:Nat) (v:Int) (a:VI) (d:VB),In M v->¬In d v->d.length=n->a.length<=cnt d->n<m+cnt d ->
 ∃S e,bN m v T a d M=some (a++S,e)/\Mk n d S e/\Dfs sc (In d) [v] S
 |0,v,a,d,_,_,hd,_,hm=>absurd hm (by have:=jg d;omega)
 |m+1,v,a,d,hv,hdv,hd,r,hm=>by
  obtain⟨p,I⟩:=dU q hv
  obtain⟨y,hy,j⟩:=setT hd p I
  obtain⟨row,o⟩:=ch (xs:=T) (i:=v) p (by omega)
  have E:=j.cnt (by simp) (λx hx=>by rw[D4]at hx;subst hx;exact hdv)
  simp only[D0,Fi]at E
  have N:=jg y
  obtain⟨S,l,z,i,c⟩:=qv (f:=bW (bN m) T M row) (sc:=sc) (M:=M) (n:=n) (c0:=cnt y) row 0 a y (λG u a d s hd r K=>by
   obtain⟨t,Q⟩:=hr v row o u (EF s)
   unfold bW
   rw[Ef,bH,s,Fz,cS (B:=M) t (by omega),Fz,cS (B:=d) t (by omega)]
   refine⟨λF=>?_,λb g=>?_⟩
   .by_cases b:In M u
    .have g:In d u:=E8 λh=>F ⟨b,h⟩
     simp only[decide_eq_true b,decide_eq_true g,cond_true,Fz,E5,cond_false]
    .simp only[decide_eq_false b,cond_false,Fz]
   .obtain⟨S,e,w,H,k⟩:=y9 D q hn hr hs m u a d b g hd r (by omega)
    refine⟨S,e,?_,H,k⟩
    simp only[decide_eq_true b,decide_eq_false g,cond_true,Fz,FA,w]) j.1 (by omega) (Ec _)
  have L:=i.cnt c.nodup c.out
  have O:=jg l
  have P:l.length=n:=i.1
  refine⟨S++[v],l,?_,⟨i.1,λx=>?_⟩,?_⟩
  .show bX (bN m) v T a d M=_
   unfold bX
   rw[idxB hdv p (by omega),Fz,hy,Fz,o,Fz]
   have A:cntM (bW (bN m) T M row) row.length 0 (a,y)=_:=z
   rw[A,Fz,bK]
   unfold oD
   dsimp only
   rw[app1 (by rw[DZ];omega) rfl,Fz,Fz,Ej]
  .rw[i.2,j.2,D2,D4]
   constructor
   .rintro((h|h)|h)
    .exact .inl h
    .exact .inr (.inr h)
    .exact .inr (.inl h)
   .rintro(h|h|h)
    .exact .inl (.inl h)
    .exact .inr h
    .exact .inl (.inr h)
  .rw[← hs v row hv o,j.eq]at c
   have C:(λx=>In d x\/x∈[v])=λx=>In d x\/x=v:=funext λx=>propext (by rw[D4])
   rw[C]at c
   exact Dfs.step hdv c .nil
end
section
open Classical
structure Gr (N:VV) (M:VB) (n:Nat):Prop where
 ln:N.length=n
 lm:M.length=n
 le:n<=256
 row:∀v r,idx N v=some r->r.length<=10000/\∀u∈r,0<=u/\u<n
noncomputable def scN (N:VV) (M:VB) (v:Int):VI:=if In M v then((idx N v).getD []).filter (λu=>decide (In M u)) else[]
theorem eo {N:VV}{M:VB}{v u:Int}:u∈scN N M v↔In M v/\In M u/\∃r,idx N v=some r/\u∈r:=by
 unfold scN
 by_cases h:In M v
 .rw[if_pos h,Fk,decide_eq_true_eq]
  cases a:idx N v with
  |none=>simp
  |some r=>simp[h,and_comm]
 .rw[if_neg h];simp[h]
def rowI' (N:VV) (v:Int):VI:=(idx N v).getD []
def Far (sc:Int->VI) (v:Int):Prop:=∃y∈sc v,Wy sc noV y v
def Far2 (sc:Int->VI) (v u:Int):Prop:=∃y∈sc v,Wy sc noV y u
section
variable {sc:Int->VI}
theorem Wy.far {v u:Int}(w:Wy sc noV v u) (h:v≠u):Far2 sc v u:=by
 cases w with
 |one _=>exact absurd rfl h
 |cons _ a w=>exact⟨_,a,w⟩
theorem Far2.wy {v u:Int}(h:Far2 sc v u):Wy sc noV v u:=by
 obtain⟨y,a,b⟩:=h
 exact .cons id a b
theorem Wy.snoc_in {D:Int->Prop}{v u:Int}(w:Wy sc D v u):v=u\/∃z,u∈sc z:=by
 induction w with
 |one _=>exact .inl rfl
 |cons _ a _ b=>
  rcases b with h|h
  .subst h;exact .inr ⟨_,a⟩
  .exact .inr h
theorem sZ {v u:Int}(h:Akin sc v u) (a:v≠u):Far sc v/\Far sc u:=by
 obtain⟨y,b,c⟩:=h.1.far a
 obtain⟨z,d,e⟩:=h.2.far (Ne.symm a)
 exact⟨⟨y,b,c.trans h.2⟩,⟨z,d,e.trans h.1⟩⟩
theorem Far.akin {v u:Int}(h:Far sc v) (k:Akin sc v u):Far sc u:=by
 by_cases a:v=u
 .subst a;exact h
 .exact(sZ k a).2
end
theorem nG (B:VB) (j:Nat):Asc (cG B j):=by
 unfold cG
 rw[Asc,F3]
 refine List.Pairwise.filter _ ?_
 exact List.pairwise_lt_range.imp λh=>by
  show(_:Int)<_
  exact Int.ofNat_lt.2 h
noncomputable def partG (N:VV) (M:VB) (v:Int):VI:=(cG M M.length).filter (λu=>decide (Akin (scN N M) v u))
def Lead (sc:Int->VI) (v:Int):Prop:=Far sc v/\∀a,a<v->¬Akin sc a v
noncomputable def loopsN (N:VV) (M:VB):VV:=((cG M M.length).filter (λv=>decide (Lead (scN N M) v))).map (partG N M)
section
variable {N:VV}{M:VB}
theorem du {v u:Int}:u∈partG N M v↔In M u/\Akin (scN N M) v u:=by
 unfold partG
 rw[Fk,cm,decide_eq_true_eq]
theorem kR (v:Int):Asc (partG N M v):=(nG _ _).filter _
theorem xF {v u:Int}(h:Akin (scN N M) v u):partG N M v=partG N M u:=
 oo (kR _) (kR _) λz=>by
  rw[du,du]
  exact⟨λ⟨a,b⟩=>⟨a,h.symm.trans b⟩,λ⟨a,b⟩=>⟨a,h.trans b⟩⟩
theorem ot {v:Int}(h:Far (scN N M) v):In M v:=by
 obtain⟨y,a,_⟩:=h
 exact(eo.1 a).1
def hdI (l:VI):Int:=l.headD 0
theorem ub {v:Int}(h:Far (scN N M) v):∃c,partG N M v=hdI (partG N M v)::c/\Akin (scN N M) v (hdI (partG N M v))/\Lead (scN N M) (hdI (partG N M v)):=by
 have g:v∈partG N M v:=du.2 ⟨ot h,Akin.refl v⟩
 cases b:partG N M v with
 |nil=>rw[b]at g;cases g
 |cons x c=>
  have hx:x∈partG N M v:=by rw[b];simp
  obtain⟨k,d⟩:=du.1 hx
  refine⟨c,rfl,d,h.akin d,λa f hk=>?_⟩
  have j:Akin (scN N M) v a:=d.trans hk.symm
  have i:a∈partG N M v:=du.2 ⟨ot (h.akin j),j⟩
  rw[b]at i
  have hp:Asc (x::c):=by rw[← b];exact kR v
  rcases D3.1 i with e|e
  .have:a<a:=by rw[← e]at f;exact f
   omega
  .have:=(List.pairwise_cons.1 hp).1 a e
   have:a<x:=f
   omega
theorem BR {v:Int}(h:Lead (scN N M) v):hdI (partG N M v)=v:=by
 obtain⟨i,g,a,f⟩:=ub h.1
 have b:=h.2 (hdI (partG N M v))
 have e:=f.2 v
 have c:¬hdI (partG N M v)<v:=λk=>b k a.symm
 have d:¬v<hdI (partG N M v):=λk=>e k a
 omega
theorem BV {a b:Int}{s t:VI}(h:leI (a::s) (b::t)=true) (d:a≠b):a<b:=by
 unfold leI lexI at h
 have:¬Go.Lib.compareInt a b=0:=λc=>d (cmpI_eq.1 c)
 rw[if_neg this,decide_eq_true_eq]at h
 exact cmpI_lt.1 (by omega)
theorem y8 {P:VV}(r:∀S∈P,∃v,Far (scN N M) v/\S=partG N M v) (s:∀v,Far (scN N M) v->partG N M v∈P) (t:P.Pairwise (λS T=>∀x∈S,x∉T)):P.mergeSort leI=loopsN N M:=by
 have k:∀S∈P,S=partG N M (hdI S)/\Lead (scN N M) (hdI S)/\∃d,S=hdI S::d:=λS hS=>by
  obtain⟨v,q,f⟩:=r S hS
  obtain⟨d,n,o,p⟩:=ub q
  rw[← f]at n o p
  exact⟨f.trans (xF o),p,d,n⟩
 have l:=Gd P leI
 have e:∀S∈P.mergeSort leI,S=partG N M (hdI S)/\Lead (scN N M) (hdI S)/\∃d,S=hdI S::d:=λS hS=>k S (l.mem_iff.1 hS)
 have y:(P.map hdI).Nodup:=by
  rw[List.Nodup,F3]
  refine t.imp_of_mem λ{S T} hS j hd f=>?_
  obtain⟨_,_,B,g⟩:=k S hS
  obtain⟨_,_,d,i⟩:=k T j
  refine hd (hdI S) (by rw[g];simp[hdI]) ?_
  rw[i,← f];simp[hdI]
 have m:((P.mergeSort leI).map hdI).Nodup:=((l.map hdI).nodup_iff).2 y
 have A:(P.mergeSort leI).Pairwise (λa b=>leI a b=true):=List.pairwise_mergeSort (λa b c=>leI_trans a b c) (λa b=>leI_total a b) P
 have u:Asc ((P.mergeSort leI).map hdI):=by
  rw[Asc,F3]
  rw[List.Nodup,F3]at m
  refine(List.Pairwise.and A m).imp_of_mem λ{S T} hS j ⟨a,b⟩=>?_
  obtain⟨_,_,B,g⟩:=e S hS
  obtain⟨_,_,d,i⟩:=e T j
  rw[g,i]at a
  exact BV a b
 have w:(P.mergeSort leI)=((P.mergeSort leI).map hdI).map (partG N M):=by
  rw[List.map_map]
  conv=>lhs;rw[← List.map_id (P.mergeSort leI)]
  exact List.map_congr_left λS hS=>(e S hS).1
 rw[w]
 unfold loopsN
 congr 1
 refine oo u ((nG _ _).filter _) λz=>?_
 rw[EE,Fk,cm,decide_eq_true_eq]
 constructor
 .rintro⟨S,hS,rfl⟩
  exact⟨ot (e S hS).2.1.1,(e S hS).2.1⟩
 .rintro⟨_,hl⟩
  exact⟨partG N M z,l.mem_iff.2 (s z hl.1),BR hl⟩
end
end
section
open Classical
section
variable {N:VV}{M:VB}{n:Nat}(g:Gr N M n)
include g
theorem BC:∃B,cntM (gx N M) N.length 0 (EH n [])=some (.inr B)/\B.length=n/\∀u:Int,0<=u->u<n->∃r,idx B u=some r/\∀v,v∈r↔u∈scN N M v:=by
 have hn:=g.le
 obtain⟨B,a,c,d⟩:=bR (f:=gx N M) (λb (B:VV)=>B.length=n/\∀u:Int,0<=u->u<n->∃r,idx B u=some r/\r.length<=b * 10000/\∀v,v∈r↔v<(b:Int)/\u∈scN N M v) N.length (s:=EH n []) ⟨by simp,λu e o=>⟨[],by rw[cB e,FF,if_pos (by omega)],by simp,λv=>by
  constructor
  .intro h;cases h
  .rintro⟨h,k⟩
   have:=(dU g.lm (eo.1 k).1).1
   omega⟩⟩ (λb B H ⟨I,K⟩=>by
  have q:N[b]? =some N[b]:=o7 H
  generalize N[b]=row at q
  obtain⟨V,S⟩:=g.row (b:Int) row (by rw[bH];exact q)
  unfold gx
  rw[bH,q,Fz]
  have U:b<n:=by rw[← g.ln];exact H
  obtain⟨C,P,Q,R⟩:=bR (f:=ki M (b:Int) row) (λl (B:VV)=>B.length=n/\∀u:Int,0<=u->u<n->∃r,idx B u=some r/\r.length<=b * 10000+l/\∀v,v∈r↔(v<(b:Int)/\u∈scN N M v)\/(v=(b:Int)/\In M v/\In M u/\u∈row.take l)) row.length (s:=B) ⟨I,λu e o=>by
   obtain⟨r,i,m,j⟩:=K u e o
   exact⟨r,i,Fw m (Nat.le_add_right _ _),λv=>by rw[j];simp⟩⟩ (λl B L ⟨D,w⟩=>by
   have t:row[l]? =some row[l]:=o7 L
   generalize row[l]=e at t
   obtain⟨z,T⟩:=S e (EF t)
   have x:row.take (l+1)=row.take l++[e]:=by rw[Ft,t];rfl
   have G:¬(In M (b:Int)/\In M e)->∀u:Int,0<=u->u<n->∃r,idx B u=some r/\r.length<=b * 10000+(l+1)/\∀v,v∈r↔(v<(b:Int)/\u∈scN N M v)\/(v=(b:Int)/\In M v/\In M u/\u∈row.take (l+1)):=λO u y A=>by
    obtain⟨r,i,m,j⟩:=w u y A
    refine⟨r,i,by omega,λv=>?_⟩
    rw[j,x]
    constructor
    .rintro(h|⟨h,a,c,d⟩)
     .exact .inl h
     .exact .inr ⟨h,a,c,Gb _ d⟩
    .rintro(h|⟨h,a,c,d⟩)
     .exact .inl h
     .rcases D2.1 d with d|d
      .exact .inr ⟨h,a,c,d⟩
      .rw[D4]at d
       exact absurd ⟨h ▸ a,d ▸ c⟩ O
   unfold ki
   rw[bH,t,Fz,cS (B:=M) (by omega) (by rw[g.lm];omega),Fz,cS (B:=M) z (by rw[g.lm];omega)]
   by_cases a:In M (b:Int)
   .by_cases c:In M e
    .obtain⟨r,i,m,j⟩:=w e z T
     obtain⟨B',F,hl⟩:=cL (xs:=B) (i:=e) (r++[(b:Int)]) z (by omega)
     simp only[decide_eq_true a,decide_eq_true c,cond_true,Fz,i,app1 (show r.length<=10000000000 by omega) (show Nat.ble 8 1024=true from rfl),F]
     refine⟨_,rfl,by omega,λu y A=>?_⟩
     rw[cP F]
     by_cases p:u=e
     .subst p
      rw[if_pos rfl]
      refine⟨_,rfl,by rw[DZ];simp only[D0,Fi];omega,λv=>?_⟩
      rw[D2,j,D4,x]
      constructor
      .rintro((h|⟨h,a,c,d⟩)|h)
       .exact .inl h
       .exact .inr ⟨h,a,c,Gb _ d⟩
       .subst h;exact .inr ⟨rfl,a,c,by simp⟩
      .rintro(h|⟨h,a,c,d⟩)
       .exact .inl (.inl h)
       .exact .inr h
     .rw[if_neg p]
      obtain⟨r,i,m,j⟩:=w u y A
      refine⟨r,i,by omega,λv=>?_⟩
      rw[j,x,D2,D4]
      simp[p]
    .simp only[decide_eq_true a,decide_eq_false c,cond_true,Fz,cond_false]
     exact⟨_,rfl,D,G λh=>c h.2⟩
   .simp only[decide_eq_false a,Fz,cond_false]
    exact⟨_,rfl,D,G λh=>a h.1⟩)
  rw[P,Fz,bK]
  refine⟨_,rfl,Q,λu e o=>?_⟩
  obtain⟨r,i,m,j⟩:=R u e o
  refine⟨r,i,by omega,λv=>?_⟩
  rw[j,Fv]
  constructor
  .rintro(⟨h,k⟩|⟨h,a,c,d⟩)
   .exact⟨by omega,k⟩
   .subst h
    exact⟨by omega,eo.2 ⟨a,c,row,by rw[bH];exact q,d⟩⟩
  .rintro⟨h,k⟩
   by_cases p:v=(b:Int)
   .subst p
    obtain⟨a,c,W,E,d⟩:=eo.1 k
    rw[bH,q]at E
    cases E
    exact .inr ⟨rfl,a,c,d⟩
   .exact .inl ⟨by omega,k⟩)
 refine⟨B,a,c,λu e o=>?_⟩
 obtain⟨r,i,m,j⟩:=d u e o
 refine⟨r,i,λv=>?_⟩
 rw[j]
 refine⟨λh=>h.2,λh=>⟨?_,h⟩⟩
 have:=(dU g.lm (eo.1 h).1).2
 rw[g.ln];exact this
def Many (N:VV) (S:VI):Prop:=1<S.length\/∃v∈S,∃r,idx N v=some r/\v∈r
noncomputable def keepP (N:VV) (P:VV):VV:=(P.filter (λS=>decide (Many N S))).map λS=>S.mergeSort λx y=>decide (x<=y)
theorem pU {B:VV}{bk:Int->VI}(o:B.length=n) (w:∀v row,idx B v=some row->∀u∈row,0<=u/\u<n) (s:∀v row,In M v->idx B v=some row->bk v=row.filter (λu=>decide (In M u)))
 {L:VI} {d0:VB} (G:L.length<=256) (q:∀v∈L,In M v):
 ∀(k:Nat) (P0:VV) (d:VB) (F:Nat),k<=L.length->P0.length+k<=1000->d.length=n->k<F ->
 ∃P a,bQ (dS N M B (L,d0)) F (P0,(k:Int)-1,d)=some (.inr (P0++keepP N P,-1,a))/\Kos bk (In d) ((L.take k).reverse) P
 |_,_,_,0,_,_,_,h=>absurd h (Fx _)
 |0,P0,d,F+1,_,_,hd,_=>⟨[],d,by
  show EO (dS N M B (L,d0) (P0,((0:Nat):Int)-1,d)) _=_
  have:keepP N []=[]:=rfl
  rw[this,F8]
  rfl,.nil⟩
 |k+1,P0,d,F+1,hk,hP,hd,hF=>by
  have hn:=g.le
  have hx:L[k]? =some L[k]:=o7 (by omega)
  generalize L[k]=x at hx
  have T:=q x (EF hx)
  obtain⟨I,ag⟩:=dU g.lm T
  have aa:(L.take (k+1)).reverse=x::(L.take k).reverse:=by rw[Ft,hx];simp
  have V:((k+1:Nat):Int)-1=(k:Int):=by omega
  have K:ET .i64 ((k:Int)-1)=(k:Int)-1:=wr' (by omega) (by omega)
  rw[aa,V]
  show ∃P a,EO (dS N M B (L,d0) (P0,(k:Int),d)) _=_/\_
  by_cases b:In d x
  .obtain⟨P,a,e,l⟩:=pU o w s G q k P0 d F (by omega) (by omega) hd (by omega)
   have E:dS N M B (L,d0) (P0,(k:Int),d)=some (.inr (.inr (P0,(k:Int)-1,d))):=by
    unfold dS
    dsimp only
    rw[decide_eq_true (show(0:Int)<=(k:Int) by omega),cond_true,bH,hx,Fz,cS (B:=d) I (by omega),Fz,K,decide_eq_true b,cond_true]
   rw[E,Fz]
   exact⟨P,a,e,.skip b l⟩
  .obtain⟨S,m,af,D,j⟩:=y9 o g.lm hn w s (2 ^ 64) x [] d T b hd (Fy _) (by have:=jg d;omega)
   have c:x∈S:=(j.mem_iff x).2 ⟨x,by simp,.one b⟩
   have O:0<S.length:=FT c
   have al:=D.cnt j.nodup j.out
   have ak:=jg m
   have Q:=D.1
   obtain⟨ae,H⟩:=ch (xs:=N) (i:=x) I (by rw[g.ln];exact ag)
   have W:(EO (bif decide (1<(S.length:Int)) then some true else EO (idx N x) λah=>EO (bP ah x) λai=>some ai) λp=>if p=decide (Many N S) then some () else none)=some ():=by
    by_cases f:1<S.length
    .rw[decide_eq_true (show(1:Int)<(S.length:Int) by omega),cond_true,Fz,if_pos]
     exact(decide_eq_true (.inl f)).symm
    .rw[decide_eq_false (show ¬(1:Int)<(S.length:Int) by omega),cond_false,H,Fz,cU,Fz,Fz,if_pos]
     rw[E4,List.any_eq_true,decide_eq_true_eq]
     constructor
     .rintro⟨y,hy,U⟩
      have:x=y:=by simpa using U
      exact .inr ⟨x,c,ae,H,this ▸ hy⟩
     .rintro(h|⟨v,C,r,hr,ab⟩)
      .exact absurd h f
      .have ac:v=x:=by
        match S,O,f,c,C with
        | [y],_,_,c,C=>
         rw[D4]at c C
         rw[c,C]
        |y::z::t,_,f,_,_=>simp at f
       subst ac
       rw[H]at hr
       cases hr
       exact⟨v,ab,by simp⟩
   obtain⟨p,Y,R⟩:=Ge.1 W
   have hp:p=decide (Many N S):=E8 λX=>by rw[if_neg X]at R;cases R
   have Z:cq S=some (S.mergeSort λx y=>decide (x<=y)):=by
    unfold cq
    rw[if_pos ⟨O,by omega⟩]
   have E:dS N M B (L,d0) (P0,(k:Int),d)=EO (bif decide (Many N S) then EO (appS 24 P0 [S.mergeSort λx y=>decide (x<=y)]) λaj=>some aj else some P0) λad=>some (.inr (.inr (ad,(k:Int)-1,m))):=by
    unfold dS
    dsimp only
    rw[decide_eq_true (show(0:Int)<=(k:Int) by omega),cond_true,bH,hx,Fz,cS (B:=d) I (by omega),Fz,K,decide_eq_false b,cond_false,yk,af,Fz]
    dsimp only
    rw[FU,Z,Fz,Y,Fz,hp]
   by_cases A:Many N S
   .have ha:appS 24 P0 [S.mergeSort λx y=>decide (x<=y)]=some (P0++[S.mergeSort λx y=>decide (x<=y)]):=app1 (by omega) rfl
    obtain⟨P,a,e,l⟩:=pU o w s G q k (P0++[S.mergeSort λx y=>decide (x<=y)]) m F (by omega) (by simp only[DZ,D0,Fi];omega) Q (by omega)
    rw[E,decide_eq_true A,cond_true,ha,Fz,Fz,Fz]
    refine⟨S::P,a,?_,?_⟩
    .have:keepP N (S::P)=(S.mergeSort λx y=>decide (x<=y))::keepP N P:=by
      unfold keepP
      rw[Fe,if_pos (decide_eq_true A)];rfl
     rw[this]
     rw[Ej]at e
     exact e
    .refine .step b j ?_
     rw[← D.eq];exact l
   .obtain⟨P,a,e,l⟩:=pU o w s G q k P0 m F (by omega) (by omega) Q (by omega)
    rw[E,decide_eq_false A,cond_false,Fz,Fz]
    refine⟨S::P,a,?_,?_⟩
    .have:keepP N (S::P)=keepP N P:=by
      unfold keepP
      rw[Fe,if_neg (by simpa using A)]
     rw[this];exact e
    .refine .step b j ?_
     rw[← D.eq];exact l
theorem BK:po N M=some (loopsN N M):=by
 have hn:=g.le
 obtain⟨B,an,ap,W⟩:=BC g
 have ad:∀v u,u∈rowI' B v↔v∈scN N M u:=λv u=>by
  unfold rowI'
  constructor
  .intro h
   cases a:idx B v with
   |none=>rw[a]at h;cases h
   |some r=>
    rw[a]at h
    obtain⟨w,U⟩:=cr a
    obtain⟨aI,A,G⟩:=W v w (by omega)
    rw[a]at A;cases A
    exact(G u).1 h
  .intro h
   obtain⟨w,U⟩:=dU g.lm (eo.1 h).2.1
   obtain⟨aI,A,G⟩:=W v w U
   rw[A];exact(G u).2 h
 have ac:∀v u,u∈rowI' B v->In M v/\In M u:=λv u h=>by
  obtain⟨p,F,_⟩:=eo.1 ((ad v u).1 h)
  exact⟨F,p⟩
 have L:∀v row,idx B v=some row->rowI' B v=row:=λv row a=>by unfold rowI';rw[a];rfl
 have ay:∀v row,idx B v=some row->rowI' B v=row.filter (λu=>decide (In M u)):=λv row a=>by
  rw[L v row a]
  symm
  rw[Ga]
  intro u e
  rw[← L v row a]at e
  exact decide_eq_true (ac v u e).2
 have ax:∀v row,idx B v=some row->∀u∈row,0<=u/\u<n:=λv row a u e=>by
  rw[← L v row a]at e
  exact dU g.lm (ac v u e).2
 have hs:∀v row,In M v->idx N v=some row->scN N M v=row.filter (λu=>decide (In M u)):=λv row h a=>by
  unfold scN
  rw[if_pos h,a];rfl
 have Z:∀x,¬In (EH n false) x:=λx hx=>by
  obtain⟨aL,aP⟩:=dU (n:=n) (by simp) hx
  unfold In at hx
  rw[cB aL,FF,if_pos (by omega)]at hx
  cases hx
 have o:In (EH n false)=noV:=funext λx=>propext ⟨λh=>Z x h,λh=>h.elim⟩
 have ai:((List.range n).map Int.ofNat).length=n:=by simp
 obtain⟨i,H,Y,am,s⟩:=qv (f:=iJ N M) (sc:=scN N M) (M:=M) (n:=n) (c0:=0) ((List.range n).map Int.ofNat) 0 [] (EH n false) (λl u aF d e hd aA _=>by
  have I:l<n:=by have:=(DX.1 e).1;rwa [ai]at this
  have aC:u=(l:Int):=by
   rw[List.getElem?_map,List.getElem?_range I]at e
   exact(EU e).symm
  subst aC
  rw[Ef]
  unfold iJ
  dsimp only
  rw[cS (B:=M) (by omega) (by rw[g.lm];omega),Fz,cS (B:=d) (by omega) (by omega)]
  refine⟨λo=>?_,λc j=>?_⟩
  .by_cases c:In M (l:Int)
   .have j:In d (l:Int):=E8 λh=>o ⟨c,h⟩
    simp only[decide_eq_true c,decide_eq_true j,cond_true,Fz,E5,cond_false]
   .simp only[decide_eq_false c,cond_false,Fz]
  .obtain⟨S,X,a,aE,k⟩:=y9 g.ln g.lm hn (λv row a=>(g.row v row a).2) hs (2 ^ 64) (l:Int) aF d c j hd aA (by have:=jg d;omega)
   refine⟨S,X,?_,aE,k⟩
   simp only[decide_eq_true c,decide_eq_false j,cond_true,Fz,FA,a]) (by simp) (Fy _) (Fy _)
 rw[ai]at Y
 rw[o]at s
 have ab:∀v,v∈i->In M v:=λv b=>by
  obtain⟨u,e,V⟩:=(s.mem_iff v).1 b
  have aB:In M u:=by simpa using (Fk.1 e).2
  cases V.snoc_in with
  |inl h=>exact h ▸ aB
  |inr h=>obtain⟨z,R⟩:=h;exact(eo.1 R).2.1
 have aa:∀v,In M v->v∈i:=λv b=>(s.mem_iff v).2 ⟨v,Fk.2 ⟨by
  obtain⟨w,U⟩:=dU g.lm b
  obtain⟨l,I⟩:=dy w
  subst I
  exact EE.2 ⟨l,List.mem_range.2 (by omega),rfl⟩,by simpa using b⟩,.one id⟩
 have au:i.length<=256:=by
  have:=am.cnt s.nodup (λx _=>Z x)
  have:=jg H
  have:=am.1
  omega
 obtain⟨P,X,V,al⟩:=pU g (d0:=H) ap ax (λv row _ a=>ay v row a) au ab i.length [] (EH n false) (2 ^ 64) (Ec _) (by simp only[Fi];omega) (by simp) (by omega)
 rw[Fv,o]at al
 obtain⟨E,aG,aH,aN⟩:=zZ ad s (λp F aw=>aa p (eo.1 aw).1) noV i.reverse P al [] (by simp) (λx=>⟨λh=>h.elim,λ⟨aO,h,_⟩=>by cases h⟩)
 have C:∀S∈P,∀v∈S,(∀x,x∈S↔Akin (scN N M) v x)/\In M v:=λS hS v b=>by
  obtain⟨_,aJ,c,_,j⟩:=E S hS
  have Q:=(j v).1 b
  refine⟨λx=>by rw[j];exact⟨λh=>Q.symm.trans h,λh=>Q.trans h⟩,?_⟩
  by_cases a:aJ=v
  .subst a;exact ab _ (Gc.1 c)
  .exact ot (sZ Q a).2
 have af:∀S∈P,∀v∈S,(S.mergeSort λx y=>decide (x<=y))=partG N M v:=λS hS v b=>by
  obtain⟨K,_⟩:=E S hS
  obtain⟨c,j⟩:=C S hS v b
  refine oo (yh K) (kR _) λz=>?_
  rw[(Gd S _).mem_iff,du]
  exact⟨λh=>⟨(C S hS z h).2,(c z).1 h⟩,λh=>(c z).2 h.2⟩
 have ae:∀S∈P,∀v∈S,Many N S↔Far (scN N M) v:=λS hS v b=>by
  obtain⟨c,j⟩:=C S hS v b
  obtain⟨K,_⟩:=E S hS
  constructor
  .rintro(h|⟨u,e,r,hr,O⟩)
   .have:∃z∈S,z≠v:=E8 λo=>by
     have:S.length<=[v].length:=mW K λx hx=>D4.2 (E8 λm=>o ⟨x,hx,m⟩)
     simp only[D0,Fi]at this
     omega
    obtain⟨z,R,m⟩:=this
    exact(sZ ((c z).1 R) (Ne.symm m)).1
   .have ah:=(C S hS u e).2
    have:Far (scN N M) u:=⟨u,eo.2 ⟨ah,ah,r,hr,O⟩,.one id⟩
    exact this.akin ((c u).1 e).symm
  .rintro⟨y,hy,aK⟩
   by_cases h:1<S.length
   .exact .inl h
   .have D:y∈S:=(c y).2 ⟨.cons id hy (.one id),aK⟩
    have:y=v:=by
     match S,h,b,D with
     | [p],_,b,D=>rw[D4]at b D;rw[b,D]
     |p::F::t,h,_,_=>simp at h
    subst this
    obtain⟨_,_,r,hr,O⟩:=eo.1 hy
    exact .inr ⟨y,b,r,hr,O⟩
 have m:∀S∈P,∃v,v∈S:=λS hS=>by
  obtain⟨_,v,_,_,h⟩:=E S hS
  exact⟨v,(h v).2 (Akin.refl v)⟩
 have ag:(keepP N P).mergeSort leI=loopsN N M:=by
  refine y8 (λT q=>?_) (λv b=>?_) ?_
  .unfold keepP at q
   obtain⟨S,hS,rfl⟩:=EE.1 q
   obtain⟨hS,az⟩:=Fk.1 hS
   obtain⟨v,b⟩:=m S hS
   exact⟨v,(ae S hS v b).1 (of_decide_eq_true az),af S hS v b⟩
  .rcases aG v (Gc.2 (aa v (ot b))) with h|⟨S,hS,aj⟩
   .exact h.elim
   .unfold keepP
    exact EE.2 ⟨S,Fk.2 ⟨hS,decide_eq_true ((ae S hS v aj).2 b)⟩,af S hS v aj⟩
  .unfold keepP
   rw[F3]
   refine(aH.filter _).imp λ{S T} h x hx ak=>?_
   rw[(Gd _ _).mem_iff]at hx ak
   exact h x hx ak
 have aM:(keepP N P).length<=1000:=by
  have c:(loopsN N M).length<=n:=by
   unfold loopsN
   rw[Fh]
   exact Fw (Fg _ _) (Fw (jm _ _) (by rw[g.lm];exact Ec _))
  rw[← ag,List.length_mergeSort]at c
  omega
 have av:((keepP N P).all λaD=> !aD.isEmpty)=true:=by
  rw[Fc]
  intro T q
  unfold keepP at q
  obtain⟨S,hS,rfl⟩:=EE.1 q
  obtain⟨v,b⟩:=m S (Fk.1 hS).1
  have:=(Gd S λx y=>decide (x<=y)).mem_iff.2 b
  cases a:(S.mergeSort λx y=>decide (x<=y)) with
  |nil=>rw[a]at this;cases this
  |cons _ _=>rfl
 have ar:ET .i64 ((i.length:Int)-1)=(i.length:Int)-1:=wr' (by omega) (by omega)
 have aq:cntM (iJ N M) n 0 (([]:VI),EH n false)=some (.inr (i,H)):=by
  rw[← FU i];exact Y
 have ao:cntM (gx N M) n 0 (EH n [])=some (.inr B):=by rw[← an,g.ln]
 unfold po
 rw[g.ln,de (by omega) rfl,Fz,ao,Fz,bK,de (by omega) rfl,Fz,aq,Fz,bK,Fz]
 dsimp only
 rw[ar,V,Fz,bK]
 dsimp only
 rw[FU]
 unfold eG
 rw[if_pos ⟨by omega,av⟩,Fz,ag]
end
end
section
open Classical
theorem noIn {n:Nat}(x:Int):¬In (EH n false) x:=λhx=>by
 obtain⟨a,b⟩:=dU (n:=n) (by simp) hx
 unfold In at hx
 rw[cB a,FF,if_pos (by omega)]at hx
 cases hx
theorem vd {r:Type}{f:Int->VB->Option (r⊕(VB⊕VB))}{set:VI}{n:Nat}{d:VB}(hd:d.length=n) (hs:∀x∈set,0<=x/\x<n)
 (o:∀(i:Nat) x a,set[i]? =some x->a.length=n->f (i:Int) a=EO (idx a x) λ_=>EO (setI a x true) λy=>some (.inr (.inr y))):
 ∃M,cntM f set.length 0 d=some (.inr M)/\Mk n d set M:=by
 obtain⟨M,l,e⟩:=bR (f:=f) (λb a=>Mk n d (set.take b) a) set.length (s:=d) ⟨hd,λx=>by simp⟩ (λb a p ⟨c,k⟩=>by
  have hx:set[b]? =some set[b]:=o7 p
  generalize set[b]=x at hx
  obtain⟨j,q⟩:=hs x (EF hx)
  obtain⟨y,hy,g⟩:=setT c j q
  obtain⟨s,m⟩:=ch (xs:=a) (i:=x) j (by omega)
  rw[o b x a hx c,m,Fz,hy,Fz]
  refine⟨_,rfl,g.1,λz=>?_⟩
  rw[g.2,k,Ft,hx]
  simp[or_assoc])
 rw[Fv]at e
 exact⟨M,l,e⟩
theorem Cr {set:VI}{n:Nat}(hn:n<=256) (hs:∀x∈set,0<=x/\x<n):∃M,m8 set (n:Int)=some M/\M.length=n/\∀v,In M v↔v∈set:=by
 obtain⟨M,a,b,c⟩:=vd (f:=kE set) (set:=set) (n:=n) (d:=EH n false) (by simp) hs (λe x g hx hl=>by
  unfold kE
  rw[bH,hx,Fz])
 unfold m8
 rw[de (by omega) rfl,Fz,a,Fz,bK]
 exact⟨M,rfl,b,λv=>by rw[c];simp[noIn]⟩
section
variable {N:VV}{M:VB}{n:Nat}(g:Gr N M n)
include g
theorem Ao {c:Int}(m:In M c):∃R,lw N M [c]=some R/\R.length=n/\∀x,In R x↔Far2 (scN N M) c x:=by
 obtain⟨q,s⟩:=dU g.lm m
 have o:∀{v u:Int},In M v->In M u->u∈rowI' N v->u∈scN N M v:=λ{v u} b d e=>by
  unfold rowI' at e
  cases a:idx N v with
  |none=>rw[a]at e;cases e
  |some r=>rw[a]at e;exact eo.2 ⟨b,d,r,a,e⟩
 have t:∀x,Far2 (scN N M) c x->In M x:=λx ⟨y,b,d⟩=>by
  rcases d.snoc_in with h|⟨z,h⟩
  .rw[← h];exact(eo.1 b).2.1
  .exact(eo.1 h).2.1
 refine Bm (row:=rowI' N) (Y:=In M) (S0:=λx=>x=c) (Base:=λ_=>False) (Src:=Far2 (scN N M) c) (n:=n) (N:=N) (low:=M) (λv A B=>?_) g.le g.lm (λv=>Iff.rfl) (λx u hx p hy=>?_) g.ln q s (λx=>Iff.rfl) (λx h=>h) (λC _ l x hx=>?_)
 .obtain⟨r,hr⟩:=ch (xs:=N) (i:=v) A (by rw[g.ln];exact B)
  have:rowI' N v=r:=by unfold rowI';rw[hr];rfl
  rw[this]
  exact⟨hr,g.row v r hr⟩
 .rcases hx with a|h
  .subst a
   exact⟨u,o m hy p,.one id⟩
  .obtain⟨y,b,d⟩:=h
   exact⟨y,b,d.snoc (o (t x ⟨y,b,d⟩) hy p) id⟩
 .obtain⟨y,b,d⟩:=hx
  have j:∀{k f:Int},f∈scN N M k->f∈rowI' N k/\In M f:=λ{k f} h=>by
   obtain⟨_,d,r,a,e⟩:=eo.1 h
   unfold rowI'
   rw[a]
   exact⟨e,d⟩
  have hy:=l c y (.inl rfl) (j b).1 (j b).2
  clear b
  induction d with
  |one _=>exact hy
  |cons _ a _ w=>exact w (l _ _ (.inr hy) (j a).1 (j a).2)
theorem Cq {set:VI}(K:set=cG M M.length) (al:m8 set (n:Int)=some M):pG N set=some (loopsN N M):=by
 have hn:=g.le
 have W:∀v,v∈set↔In M v:=λv=>by rw[K];exact cm
 have aL:set.length<=n:=by rw[K];have:=jm M M.length;have:=g.lm;omega
 have aa:Asc set:=by rw[K];exact nG _ _
 have hl:=g.ln
 have T:=g.lm
 obtain⟨Fa,aj,aI,ak⟩:=bR (f:=kC N M) (λb (F:List VB)=>F.length=b/\∀i:Nat,i<b->In M (i:Int)->∃R,F[i]? =some R/\R.length=n/\∀u,In R u↔Far2 (scN N M) (i:Int) u) N.length (s:=[]) ⟨rfl,λi k=>absurd k (Fx i)⟩ (λb F S ⟨m,q⟩=>by
  unfold kC
  rw[cS (B:=M) (by omega) (by omega),Fz]
  by_cases h:In M (b:Int)
  .obtain⟨R,aA,aB,aC⟩:=Ao g h
   simp only[decide_eq_true h,cond_true,aA,Fz,app1 (show F.length<=10000000000 by omega) (show Nat.ble 24 1024=true from rfl)]
   refine⟨_,rfl,by simp[m],λi k E=>?_⟩
   by_cases t:i=b
   .subst t
    exact⟨R,by rw[← m];simp,aB,aC⟩
   .obtain⟨R',A,D⟩:=q i (by omega) E
    exact⟨R',by rw[Es (by omega)];exact A,D⟩
  .simp only[decide_eq_false h,cond_false,Fz,app1 (show F.length<=10000000000 by omega) (show Nat.ble 24 1024=true from rfl)]
   refine⟨_,rfl,by simp[m],λi k E=>?_⟩
   by_cases t:i=b
   .subst t;exact absurd E h
   .obtain⟨R',A,D⟩:=q i (by omega) E
    exact⟨R',by rw[Es (by omega)];exact A,D⟩)
 have V:∀v,In M v->∃R,idx Fa v=some R/\R.length=n/\∀u,In R u↔Far2 (scN N M) v u:=λv j=>by
  obtain⟨G,ah⟩:=dU T j
  obtain⟨i,k⟩:=dy G
  subst k
  obtain⟨R,A,D⟩:=ak i (by omega) j
  exact⟨R,by rw[bH];exact A,D⟩
 have ax:∀v,In M v->Far (scN N M) v->∀u,In M u->((Far2 (scN N M) v u/\Far2 (scN N M) u v)↔Akin (scN N M) v u):=λv j l u O=>by
  constructor
  .exact λ⟨ai,U⟩=>⟨ai.wy,U.wy⟩
  .intro h
   by_cases t:v=u
   .subst t;exact⟨l,l⟩
   .exact⟨h.1.far t,h.2.far (Ne.symm t)⟩
 have az:∀v,In M v->Far (scN N M) v->∀d:VB,d.length=n->∃H,cntM (iZ set Fa v) set.length 0 ([],d)=some (.inr (partG N M v,H))/\Mk n d (partG N M v) H:=λv j l d hd=>by
  obtain⟨G,ah⟩:=dU T j
  obtain⟨Rv,A,D,Q⟩:=V v j
  obtain⟨⟨p,H⟩,a,e,s⟩:=bR (f:=iZ set Fa v) (λb (o:VI×VB)=>o.1=(set.take b).filter (λu=>decide (Akin (scN N M) v u))/\Mk n d ((set.take b).filter (λu=>decide (Akin (scN N M) v u))) o.2) set.length (s:=([],d)) ⟨rfl,hd,λx=>by simp⟩ (λb o S ⟨m,q⟩=>by
   obtain⟨p,r⟩:=o
   dsimp only at m q
   have O:set[b]? =some set[b]:=o7 S
   generalize set[b]=u at O
   have X:=(W u).1 (EF O)
   obtain⟨Z,ag⟩:=dU T X
   obtain⟨Ru,aD,aN,aE⟩:=V u X
   have L:(set.take (b+1)).filter (λu=>decide (Akin (scN N M) v u))=(set.take b).filter (λu=>decide (Akin (scN N M) v u))++(if Akin (scN N M) v u then[u] else[]):=by
    rw[Ft,O,FD]
    congr 1
    by_cases h:Akin (scN N M) v u
    .rw[if_pos h];simp[h]
    .rw[if_neg h];simp[h]
   have hpl:p.length<=n:=by
    rw[m]
    exact Fw (Fg _ _) (by rw[EB];omega)
   have ar:(EO (bif decide (In Rv u) then EO (idx Fa u) λaF=>EO (idx aF v) λaG=>some aG else some false) λp=>if p=decide (Akin (scN N M) v u) then some () else none)=some ():=by
    have hk:=ax v j l u X
    by_cases a:Far2 (scN N M) v u
    .rw[decide_eq_true ((Q u).2 a),cond_true,aD,Fz,cS (B:=Ru) G (by omega),Fz,Fz,if_pos]
     exact decide_eq_decide.2 (by rw[aE,← hk];exact⟨λh=>⟨a,h⟩,λh=>h.2⟩)
    .rw[decide_eq_false (λh=>a ((Q u).1 h)),cond_false,Fz,if_pos]
     exact(decide_eq_false λh=>a (hk.2 h).1).symm
   obtain⟨U,ao,ab⟩:=Ge.1 ar
   have an:U=decide (Akin (scN N M) v u):=E8 λav=>by rw[if_neg av]at ab;cases ab
   unfold iZ
   dsimp only
   rw[bH,O,Fz,A,Fz,cS (B:=Rv) Z (by omega),Fz,ao,Fz,an,L]
   by_cases h:Akin (scN N M) v u
   .obtain⟨y,hy,af⟩:=setT q.1 Z ag
    obtain⟨aH,ap⟩:=ch (xs:=r) (i:=u) Z (by rw[q.1];exact ag)
    rw[decide_eq_true h,cond_true,app1 (by omega) rfl,Fz,ap,Fz,hy,Fz,Fz,if_pos h]
    refine⟨_,rfl,by rw[m],af.1,λz=>?_⟩
    rw[af.2,q.2,D2,or_assoc]
   .rw[decide_eq_false h,cond_false,Fz,if_neg h,F8]
    exact⟨_,rfl,m,q⟩)
  rw[Fv]at e s
  have hp:partG N M v=set.filter (λu=>decide (Akin (scN N M) v u)):=by unfold partG;rw[K]
  rw[← hp]at e s
  dsimp only at e
  subst e
  exact⟨H,a,s⟩
 obtain⟨⟨P,r⟩,a,e,s,aJ⟩:=bR (f:=kD set Fa) (λb (o:VV×VB)=>o.1=((set.take b).filter (λv=>decide (Lead (scN N M) v))).map (partG N M)/\o.2.length=n/\∀u,In o.2 u↔∃c∈set.take b,Far (scN N M) c/\Akin (scN N M) c u) set.length (s:=([],EH n false)) ⟨rfl,by simp,λu=>by simp[noIn]⟩ (λb o S ⟨m,q,C⟩=>by
  obtain⟨P,r⟩:=o
  dsimp only at m q C
  have j:set[b]? =some set[b]:=o7 S
  generalize set[b]=v at j
  have Y:=(W v).1 (EF j)
  obtain⟨G,ah⟩:=dU T Y
  obtain⟨Rv,A,D,Q⟩:=V v Y
  have aq:∀c,c∈set->c<v->c∈set.take b:=λc w aM=>by
   obtain⟨i,k⟩:=Ff w
   have I:i<b:=E8 λac=>by
    by_cases t:i=b
    .subst t;rw[k]at j;cases j;omega
    .have:=lI aa j k (by omega);omega
   exact EF (i:=i) (by rw[List.getElem?_take,if_pos I];exact k)
  have am:∀c,c∈set.take b->c<v:=λc w=>by
   obtain⟨i,k⟩:=Ff w
   rw[List.getElem?_take]at k
   by_cases I:i<b
   .rw[if_pos I]at k;exact lI aa k j I
   .rw[if_neg I]at k;cases k
  have au:¬In r v->Far (scN N M) v->Lead (scN N M) v:=λa e=>⟨e,λc w hk=>a ((C v).2 ⟨c,aq c ((W c).2 (ot (e.akin hk.symm))) w,e.akin hk.symm,hk⟩)⟩
  have aw:In r v->¬Lead (scN N M) v:=λa e=>by
   obtain⟨c,w,_,hk⟩:=(C v).1 a
   exact e.2 c (am c w) hk
  have L:set.take (b+1)=set.take b++[v]:=by rw[Ft,j];rfl
  have ad:¬Lead (scN N M) v->(∀u,Far (scN N M) v->Akin (scN N M) v u->In r u)->P=((set.take (b+1)).filter (λv=>decide (Lead (scN N M) v))).map (partG N M)/\r.length=n/\∀u,In r u↔∃c∈set.take (b+1),Far (scN N M) c/\Akin (scN N M) c u:=λac E=>by
   rw[L]
   refine⟨by rw[FD,m];simp[ac],q,λu=>?_⟩
   rw[C]
   constructor
   .exact λ⟨c,a,e⟩=>⟨c,Gb _ a,e⟩
   .rintro⟨c,a,e,s⟩
    rcases D2.1 a with a|a
    .exact⟨c,a,e,s⟩
    .rw[D4]at a
     subst a
     exact(C u).1 (E u e s)
  unfold kD
  dsimp only
  rw[bH,j,Fz,cS (B:=r) G (by omega),Fz]
  by_cases hd:In r v
  .rw[decide_eq_true hd,cond_true,Fz,cond_true]
   refine⟨_,rfl,ad (aw hd) λu a e=>?_⟩
   obtain⟨c,w,l,hk⟩:=(C v).1 hd
   exact(C u).2 ⟨c,w,l,hk.trans e⟩
  .rw[decide_eq_false hd,cond_false,A,Fz,cS (B:=Rv) G (by omega),Fz,Fz]
   by_cases l:Far (scN N M) v
   .obtain⟨H,ay,ae⟩:=az v Y l r q
    have aK:P.length<=256:=by
     rw[m,Fh]
     exact Fw (Fg _ _) (by rw[EB];omega)
    rw[decide_eq_true ((Q v).2 l),E5,cond_false,ay,Fz,bK]
    dsimp only
    rw[app1 (by omega) rfl,Fz]
    refine⟨_,rfl,?_,ae.1,λu=>?_⟩
    .rw[L,FD,m];simp[au hd l]
    .dsimp only
     rw[ae.2,C,L]
     constructor
     .rintro(⟨c,a,e⟩|h)
      .exact⟨c,Gb _ a,e⟩
      .exact⟨v,by simp,l,(du.1 h).2⟩
     .rintro⟨c,a,e,s⟩
      rcases D2.1 a with a|a
      .exact .inl ⟨c,a,e,s⟩
      .rw[D4]at a
       subst a
       exact .inr (du.2 ⟨ot (e.akin s),s⟩)
   .rw[decide_eq_false (λh=>l ((Q v).1 h)),FA,cond_true]
    exact⟨_,rfl,ad (λh=>l h.1) λu h=>absurd h l⟩)
 rw[Fv]at e
 dsimp only at e
 unfold pG
 rw[hl,al,Fz,← hl,aj,Fz,bK,hl,de (by omega) rfl,Fz,a,Fz,bK]
 dsimp only
 rw[e]
 unfold loopsN
 rw[K]
end
end
section
open Classical
def Broken (S:VI) (p:Pair):Prop:=(∃x∈S,x∈p.Ask)/\¬∃x∈S,x∈p.Give
noncomputable def leftP (pairs:VP) (S:VI):VI:=S.filter λx=>decide (¬∃p∈pairs,Broken S p/\x∈p.Ask)
theorem z6 {pairs:VP}{S:VI}:leftP pairs S=S↔∀p∈pairs,¬Broken S p:=by
 unfold leftP
 rw[Ga]
 constructor
 .intro h p hp a
  obtain⟨x,hx,b⟩:=a.1
  have:=h x hx
  rw[decide_eq_true_eq]at this
  exact this ⟨p,hp,a,b⟩
 .intro h x hx
  rw[decide_eq_true_eq]
  rintro⟨p,hp,a,_⟩
  exact h p hp a
theorem uZ {pairs:VP}{S:VI}(h:¬leftP pairs S=S):(leftP pairs S).length<S.length:=by
 have b:(leftP pairs S).length<=S.length:=Fg _ _
 by_cases a:(leftP pairs S).length=S.length
 .exact absurd (List.Sublist.eq_of_length (List.filter_sublist (l:=S)) a) h
 .omega
section
variable {n:Nat}{pairs:VP}{S:VI}(hn:n<=256) (hp:∀p∈pairs,St n p.Ask/\St n p.Give) (hpl:pairs.length<=4) (hS:St n S)
include hn hS
theorem tD {ys:VI}(hy:St n ys):pp S ys=some (decide (∃x∈S,x∈ys)):=by
 have c:=hS.len
 have d:=hy.len
 unfold pp
 rw[va hy.asc (by omega) (by omega),Fz]
 congr 1
 apply decide_eq_decide.2
 have e:(S.filter λx=> !decide (x∈ys)).length<=S.length:=Fg _ _
 constructor
 .intro h
  refine E8 λb=>?_
  have:(S.filter λx=> !decide (x∈ys))=S:=by
   rw[Ga]
   intro x hx
   simp only[Bool.not_eq_true',decide_eq_false_iff_not]
   exact λa=>b ⟨x,hx,a⟩
  rw[this]at h
  omega
 .rintro⟨x,hx,a⟩
  refine E8 λb=>?_
  have:(S.filter λx=> !decide (x∈ys))=S:=List.Sublist.eq_of_length List.filter_sublist (by omega)
  rw[Ga]at this
  have:=this x hx
  simp[a]at this
include hp hpl
theorem ux:∃b,kX pairs S=some b/\b.length<=4/\∀k,k∈b↔∃p,idx pairs k=some p/\Broken S p:=by
 obtain⟨b,o,D,q⟩:=bR (f:=jE pairs S) (λc b=>b.length<=c/\∀k,k∈b↔k<(c:Int)/\∃p,idx pairs k=some p/\Broken S p) pairs.length (s:=[]) ⟨Ec _,λk=>by
  constructor
  .intro h;cases h
  .rintro⟨h,p,a,_⟩
   have:=(cr a).1
   omega⟩ (λc b v ⟨C,j⟩=>by
  have d:pairs[c]? =some pairs[c]:=by simp[v]
  generalize pairs[c]=p at d
  obtain⟨y,z⟩:=hp p (EF d)
  have u:(EO (bif decide (∃x∈S,x∈p.Ask) then EO (pp S p.Give) λB=>some (!B) else some false) λg=>if g=decide (Broken S p) then some () else none)=some ():=by
   by_cases h:∃x∈S,x∈p.Ask
   .rw[decide_eq_true h,cond_true,tD hn hS z,Fz,Fz,if_pos]
    rw[← decide_not]
    exact decide_eq_decide.2 ⟨λk=>⟨h,k⟩,λk=>k.2⟩
   .rw[decide_eq_false h,cond_false,Fz,if_pos]
    exact(decide_eq_false λk=>h k.1).symm
  obtain⟨g,t,l⟩:=Ge.1 u
  have r:g=decide (Broken S p):=E8 λw=>by rw[if_neg w]at l;cases l
  unfold jE
  rw[bH,d,Fz,tD hn hS y,Fz,t,Fz,r]
  by_cases h:Broken S p
  .rw[decide_eq_true h,cond_true,app1 (by omega) rfl,Fz,Fz]
   refine⟨_,rfl,by simp;omega,λk=>?_⟩
   rw[D2,D4,j]
   constructor
   .rintro(⟨i,e⟩|a)
    .exact⟨by omega,e⟩
    .subst a;exact⟨by omega,p,by rw[bH];exact d,h⟩
   .rintro⟨i,e⟩
    by_cases a:k=(c:Int)
    .exact .inr a
    .exact .inl ⟨by omega,e⟩
  .rw[decide_eq_false h,cond_false,Fz]
   refine⟨_,rfl,by omega,λk=>?_⟩
   rw[j]
   constructor
   .rintro⟨i,e⟩;exact⟨by omega,e⟩
   .rintro⟨i,A,a,m⟩
    by_cases n:k=(c:Int)
    .subst n
     rw[bH,d]at a
     cases a;exact absurd m h
    .exact⟨by omega,A,a,m⟩)
 unfold kX
 rw[o,Fz,bK]
 refine⟨b,rfl,by omega,λk=>?_⟩
 rw[q]
 exact⟨λh=>h.2,λ⟨p,a,h⟩=>⟨(cr a).2,p,a,h⟩⟩
theorem CK:∃a,kX pairs S=some a/\cntM (ip pairs a) a.length 0 S=some (.inr (leftP pairs S)):=by
 obtain⟨a,w,A,s⟩:=ux hn hp hpl hS
 refine⟨a,w,?_⟩
 obtain⟨g,n,o⟩:=bR (f:=ip pairs a) (λe g=>g=S.filter λx=>decide (¬∃k∈a.take e,∃p,idx pairs k=some p/\x∈p.Ask)) a.length (s:=S) (by
  symm;rw[Ga];intro x _;simp) (λe g u hs=>by
  have hk:a[e]? =some a[e]:=by simp[u]
  generalize a[e]=k at hk
  obtain⟨p,b,j⟩:=(s k).1 (EF hk)
  have l:p∈pairs:=by
   obtain⟨r,_⟩:=cr b
   rw[cB r]at b
   exact EF b
  have y:=hS.len
  have z:=(hp p l).1.len
  have hl:g.length<=100000:=by rw[hs];exact Fw (Fg _ _) (by omega)
  unfold ip
  rw[bH,hk,Fz,b,Fz,va (hp p l).1.asc (by omega) hl,Fz]
  refine⟨_,rfl,?_⟩
  rw[hs,List.filter_filter]
  refine F9 λx _=>?_
  rw[Ft,hk,E4]
  simp only[Gf,Bool.and_eq_true,Bool.not_eq_true',decide_eq_false_iff_not,decide_eq_true_eq,D2,D4]
  constructor
  .rintro⟨n,o⟩ ⟨q,d|d,m,c,i⟩
   .exact o ⟨q,d,m,c,i⟩
   .subst d;rw[b]at c;cases c;exact n i
  .intro h
   exact⟨λhx=>h ⟨k,.inr rfl,p,b,hx⟩,λ⟨q,d,m,c,i⟩=>h ⟨q,.inl d,m,c,i⟩⟩)
 rw[n,o,Fv]
 congr 2
 unfold leftP
 refine F9 λx _=>decide_eq_decide.2 (not_congr ?_)
 constructor
 .rintro⟨k,hk,p,b,hx⟩
  obtain⟨m,c,j⟩:=(s k).1 hk
  rw[b]at c;cases c
  obtain⟨r,_⟩:=cr b
  rw[cB r]at b
  exact⟨p,EF b,j,hx⟩
 .rintro⟨p,l,j,hx⟩
  obtain⟨v,t⟩:=Ff l
  exact⟨(v:Int),(s _).2 ⟨p,by rw[bH];exact t,j⟩,p,by rw[bH];exact t,hx⟩
omit hpl in
theorem Dz:∃R,pP pairs S=some R/\St n R/\∀z,z∈R↔∃p∈pairs,Broken S p/\z∈S/\z∈p.Ask:=by
 obtain⟨R,a,b,d⟩:=bR (f:=kL pairs S) (λg R=>St n R/\∀z,z∈R↔∃p∈pairs.take g,Broken S p/\z∈S/\z∈p.Ask) pairs.length (s:=[]) ⟨⟨List.Pairwise.nil,λx h=>by cases h⟩,λz=>by simp⟩ (λg R y ⟨m,o⟩=>by
  have e:pairs[g]? =some pairs[g]:=by simp[y]
  generalize pairs[g]=p at e
  obtain⟨B,C⟩:=hp p (EF e)
  have r:∀c:VI,decide ((0:Int)<((S.filter λx=>decide (x∈c)).length:Int))=decide (∃x∈S,x∈c):=λc=>decide_eq_decide.2 (by
   constructor
   .intro h
    obtain⟨x,hx⟩:=List.exists_mem_of_length_pos (l:=S.filter λx=>decide (x∈c)) (by omega)
    obtain⟨a,b⟩:=Fk.1 hx
    exact⟨x,a,by simpa using b⟩
   .rintro⟨x,a,b⟩
    have:=FT (Fk.2 ⟨a,decide_eq_true b⟩:x∈S.filter λx=>decide (x∈c))
    omega)
  have w:(EO (bif decide ((0:Int)<((S.filter λx=>decide (x∈p.Ask)).length:Int)) then EO (idx pairs (g:Int)) λG=>EO (m0 S G.Give) λH=>some ((H.length:Int)==0) else some false) λj=>if j=decide (Broken S p) then some () else none)=some ():=by
   rw[r]
   by_cases h:∃x∈S,x∈p.Ask
   .rw[decide_eq_true h,cond_true,bH,e,Fz,sa hn hS C,Fz,Fz,if_pos]
    have q:=r p.Give
    by_cases i:∃x∈S,x∈p.Give
    .rw[decide_eq_true i,decide_eq_true_eq]at q
     rw[decide_eq_false (λk:Broken S p=>k.2 i),beq_eq_false_iff_ne]
     omega
    .rw[decide_eq_false i,decide_eq_false_iff_not]at q
     rw[decide_eq_true (show Broken S p from⟨h,i⟩),beq_iff_eq]
     omega
   .rw[decide_eq_false h,cond_false,Fz,if_pos]
    exact(decide_eq_false λk=>h k.1).symm
  obtain⟨j,t,u⟩:=Ge.1 w
  have v:j=decide (Broken S p):=E8 λA=>by rw[if_neg A]at u;cases u
  unfold kL
  rw[bH,e,Fz,sa hn hS B,Fz]
  rw[bH,e]at t
  rw[t,Fz,v,Ft,e]
  by_cases h:Broken S p
  .obtain⟨R',D,E,F⟩:=xN hn m (hS.filter λx=>decide (x∈p.Ask))
   rw[decide_eq_true h,cond_true,D,Fz,Fz]
   refine⟨_,rfl,E,λz=>?_⟩
   rw[F,o,Fk,decide_eq_true_eq]
   simp only[Gf,D2,D4]
   constructor
   .rintro(⟨c,a,b⟩|a)
    .exact⟨c,.inl a,b⟩
    .exact⟨p,.inr rfl,h,a⟩
   .rintro⟨c,a|a,b,d⟩
    .exact .inl ⟨c,a,b,d⟩
    .subst a;exact .inr d
  .rw[decide_eq_false h,cond_false,Fz]
   refine⟨_,rfl,m,λz=>?_⟩
   rw[o]
   simp only[Gf,D2,D4]
   constructor
   .rintro⟨c,a,b⟩;exact⟨c,.inl a,b⟩
   .rintro⟨c,a|a,b,d⟩
    .exact⟨c,a,b,d⟩
    .subst a;exact absurd b h)
 rw[Fv]at d
 unfold pP
 rw[a,Fz,bK]
 exact⟨R,rfl,b,d⟩
end
noncomputable def scP (N:VV) (C:Int->Prop) (v:Int):VI:=if C v then(rowI' N v).filter (λu=>decide (C u)) else[]
theorem iO {N:VV}{C:Int->Prop}{v u:Int}:u∈scP N C v↔C v/\C u/\u∈rowI' N v:=by
 unfold scP
 by_cases h:C v
 .rw[if_pos h,Fk,decide_eq_true_eq];simp[h,and_comm]
 .rw[if_neg h];simp[h]
theorem Cu (N:VV) (M:VB):scN N M=scP N (In M):=funext λv=>by
 by_cases h:In M v
 .unfold scN scP rowI'
  rw[if_pos h,if_pos h]
  exact F9 λu _=>decide_eq_decide.2 Iff.rfl
 .unfold scN scP
  rw[if_neg h,if_neg h]
theorem Wy.sub {N:VV}{C D:Int->Prop}(h:∀x,C x->D x){v u:Int}(w:Wy (scP N C) noV v u):Wy (scP N D) noV v u:=by
 induction w with
 |one k=>exact .one k
 |cons k d _ e=>
  obtain⟨a,b,c⟩:=iO.1 d
  exact .cons k (iO.2 ⟨h _ a,h _ b,c⟩) e
structure FairC (N:VV) (pairs:VP) (C:VI):Prop where
 ne:C≠[]
 con:∀x∈C,∀y∈C,Far2 (scP N (λz=>z∈C)) x y
 ok:∀p∈pairs,¬Broken C p
def FairP (N:VV) (pairs:VP) (S:VI):Prop:=∃C,(∀x∈C,x∈S)/\FairC N pairs C
theorem A5 {N:VV}{M:VB}{v:Int}(o:Far (scN N M) v):∀x∈partG N M v,∀y∈partG N M v,Far2 (scP N (λz=>z∈partG N M v)) x y:=by
 have q:∀{d e:Int},Wy (scN N M) noV d e->Akin (scN N M) v d->Wy (scN N M) noV e v->Wy (scP N (λz=>z∈partG N M v)) noV d e:=λ{d e} b=>by
  induction b with
  |one _=>exact λ_ _=> .one id
  | @cons d c e h f b p=>
   intro ha k
   have l:Akin (scN N M) v c:=⟨ha.1.snoc f id,b.trans k⟩
   have a:=eo.1 f
   refine .cons id (iO.2 ⟨du.2 ⟨a.1,ha⟩,du.2 ⟨a.2.1,l⟩,?_⟩) (p l k)
   obtain⟨_,_,r,hr,j⟩:=a
   unfold rowI';rw[hr];exact j
 intro x hx y hy
 have g:=(du.1 hx).2
 have i:=(du.1 hy).2
 have:Far2 (scN N M) x y:=by
  by_cases f:x=y
  .subst f
   exact o.akin g
  .exact(g.symm.trans i).1.far f
 obtain⟨z,m,b⟩:=this
 have a:=eo.1 m
 have n:Akin (scN N M) v z:=⟨g.1.snoc m id,b.trans i.2⟩
 refine⟨z,iO.2 ⟨hx,du.2 ⟨a.2.1,n⟩,?_⟩,q b n i.2⟩
 obtain⟨_,_,r,hr,j⟩:=a
 unfold rowI';rw[hr];exact j
theorem Ad {N:VV}{M:VB}{S:VI}(h:S∈loopsN N M):∃v,In M v/\Lead (scN N M) v/\S=partG N M v:=by
 unfold loopsN at h
 obtain⟨v,a,b⟩:=EE.1 h
 obtain⟨c,d⟩:=Fk.1 a
 exact⟨v,cm.1 c,of_decide_eq_true d,b.symm⟩
theorem Ab {N:VV}{M:VB}{v:Int}(c:Far (scN N M) v):partG N M v∈loopsN N M:=by
 obtain⟨e,d,b,a⟩:=ub c
 unfold loopsN
 refine EE.2 ⟨hdI (partG N M v),Fk.2 ⟨cm.2 (ot a.1),decide_eq_true a⟩,(xF b).symm⟩
theorem z7 {N:VV}{pairs:VP}{S C:VI}(a:FairC N pairs C) (hs:∀x∈C,x∈S):∀x∈C,x∈leftP pairs S:=λx hx=>by
 unfold leftP
 refine Fk.2 ⟨hs x hx,decide_eq_true ?_⟩
 rintro⟨p,hp,b,c⟩
 exact a.ok p hp ⟨⟨x,hx,c⟩,λ⟨y,hy,d⟩=>b.2 ⟨y,hs y hy,d⟩⟩
section
variable {N:VV}{n:Nat}{pairs:VP}(hN:N.length=n) (hn:n<=256) (hr:∀v r,idx N v=some r->r.length<=10000/\∀u∈r,0<=u/\u<n) (hp:∀p∈pairs,St n p.Ask/\St n p.Give) (hpl:pairs.length<=4)
include hN hn hr hp hpl
theorem uS:∀(k:Nat) (S:VI),S.length<=k->St n S->∀a b,k<a->k<b->∃c,dC a N pairs S=some c/\dZ b N pairs S=some c/\(c=true↔FairP N pairs S):=by
 intro k
 induction k with
 |zero=>
  intro S hl hS a b d e
  exact fair_step hN hn hr hp hpl 0 (λS' f=>absurd f (by omega)) S hl hS a b d e
 |succ k i=>
  intro S hl hS a b d e
  exact fair_step hN hn hr hp hpl (k+1) (λS' f g a b h j=>i S' (by omega) g a b (by omega) (by omega)) S hl hS a b d e
where fair_step (hN:N.length=n) (hn:n<=256) (hr:∀v r,idx N v=some r->r.length<=10000/\∀u∈r,0<=u/\u<n) (hp:∀p∈pairs,St n p.Ask/\St n p.Give) (hpl:pairs.length<=4) (k:Nat) (ih:∀(S:VI),S.length<k->St n S->∀m m',k<=m->k<=m'->∃b,dC m N pairs S=some b/\dZ m' N pairs S=some b/\(b=true↔FairP N pairs S)):∀(S:VI),S.length<=k->St n S->∀m m',k<m->k<m'->∃b,dC m N pairs S=some b/\dZ m' N pairs S=some b/\(b=true↔FairP N pairs S)
 |S,hl,hS,0,_,h,_=>absurd h (Fx _)
 |S,hl,hS,_+1,0,_,h=>absurd h (Fx _)
 |S,hl,hS,m+1,m'+1,hm,hm'=>by
  obtain⟨M,m1,m2,m3⟩:=Cr hn hS.rng
  have g:Gr N M n:=⟨hN,m2,hn,hr⟩
  have hset:S=cG M M.length:=oo hS.asc (nG _ _) λz=>by rw[cm,m3]
  obtain⟨M',e1,e2⟩:=vd (f:=kj S) (set:=S) (n:=n) (d:=EH n false) (by simp) hS.rng (λi x s hx _=>by
   unfold kj
   rw[bH,hx,Fz])
  have hMM:M'=M:=List.ext_getElem? λi=>by
   by_cases hi:i<n
   .rw[← bH,← bH,cS (B:=M') (by omega) (by rw[e2.1];omega),cS (B:=M) (by omega) (by omega)]
    congr 1
    exact decide_eq_decide.2 (by rw[e2.2,m3];simp[noIn])
   .rw[List.getElem?_eq_none (by rw[e2.1];omega),List.getElem?_eq_none (by omega)]
  subst hMM
  have hLs:=Cq g hset m1
  have hLi:=BK g
  have hpart:∀T∈loopsN N M',St n T/\T.length<=S.length/\T≠[]/\(∀x∈T,x∈S)/\∀x∈T,∀y∈T,Far2 (scP N (λz=>z∈T)) x y:=λT hT=>by
   obtain⟨v,h1,h2,h3⟩:=Ad hT
   subst h3
   have hsub:∀x∈partG N M' v,x∈S:=λx hx=>(m3 x).1 (du.1 hx).1
   refine⟨⟨kR v,λx hx=>hS.rng x (hsub x hx)⟩,mW (ik (kR v)) hsub,λe=>?_,hsub,A5 h2.1⟩
   have:v∈partG N M' v:=du.2 ⟨h1,Akin.refl v⟩
   rw[e]at this;cases this
  have hbody:∀(i:Nat) T,(loopsN N M')[i]? =some T->∃b,dF (dC m) N pairs (loopsN N M') (i:Int) ()=some (if b=true then .inl true else .inr (.inr ()))/\dV (dZ m') N pairs (loopsN N M') (i:Int) ()=some (if b=true then .inl true else .inr (.inr ()))/\(b=true↔FairP N pairs T):=λi T hT=>by
   obtain⟨t1,t2,t3,t4,t5⟩:=hpart T (EF hT)
   obtain⟨R,r1,r2,r3⟩:=Dz hn hp t1
   obtain⟨K,k1,k2⟩:=CK hn hp hpl t1
   have hleft:(T.filter λx=> !decide (x∈R))=leftP pairs T:=by
    unfold leftP
    refine F9 λx hx=>?_
    rw[← decide_not]
    refine decide_eq_decide.2 (not_congr ?_)
    rw[r3]
    exact⟨λ⟨p,a,b,_,c⟩=>⟨p,a,b,c⟩,λ⟨p,a,b,c⟩=>⟨p,a,b,hx,c⟩⟩
   have hR:((R.length:Int)==0)=decide (leftP pairs T=T):=by
    rw[E4,beq_iff_eq,decide_eq_true_eq,← hleft,Ga]
    constructor
    .intro h x hx
     have:R=[]:=List.length_eq_zero_iff.1 (by omega)
     simp[this]
    .intro h
     have:R=[]:=List.eq_nil_iff_forall_not_mem.2 λz hz=>by
      obtain⟨_,_,_,hzT,_⟩:=(r3 z).1 hz
      have:=h z hzT
      simp[hz]at this
     rw[this];rfl
   have hI:(((leftP pairs T).length:Int)==(T.length:Int))=decide (leftP pairs T=T):=by
    rw[E4,beq_iff_eq,decide_eq_true_eq]
    constructor
    .intro h
     exact E8 λhne=>by have:=uZ hne;omega
    .intro h;rw[h]
   by_cases hall:leftP pairs T=T
   .refine⟨true,?_,?_,?_⟩
    .unfold dF
     rw[bH,hT,Fz,r1,Fz,hR,decide_eq_true hall]
     rfl
    .unfold dV
     rw[bH,hT,Fz,k1,Fz,k2,Fz,bK,hI,decide_eq_true hall]
     rfl
    .exact⟨λ_=>⟨T,λx h=>h,t3,t5,z6.1 hall⟩,λ_=>rfl⟩
   .have hlt:=uZ hall
    have hst:St n (leftP pairs T):=t1.filter _
    obtain⟨b,b1,b2,b3⟩:=ih (leftP pairs T) (by omega) hst m m' (by omega) (by omega)
    refine⟨b,?_,?_,?_⟩
    .unfold dF
     rw[bH,hT,Fz,r1,Fz,hR,decide_eq_false hall,cond_false,Fz,xP hn t1 r2,Fz,hleft,b1,Fz,Fz]
     cases b <;> rfl
    .unfold dV
     rw[bH,hT,Fz,k1,Fz,k2,Fz,bK,hI,decide_eq_false hall,cond_false,b2,Fz,Fz]
     cases b <;> rfl
    .rw[b3]
     constructor
     .rintro⟨C,h1,h2⟩
      exact⟨C,λx hx=>(Fk.1 (h1 x hx)).1,h2⟩
     .rintro⟨C,h1,h2⟩
      exact⟨C,z7 h2 h1,h2⟩
  have hloop:∀(us:VV) (j:Nat),(∀(i:Nat) T,us[i]? =some T->(loopsN N M')[j+i]? =some T)->∃b,cntM (dF (dC m) N pairs (loopsN N M')) us.length (j:Int) ()=some (if b=true then .inl true else .inr ())/\cntM (dV (dZ m') N pairs (loopsN N M')) us.length (j:Int) ()=some (if b=true then .inl true else .inr ())/\(b=true↔∃T∈us,FairP N pairs T):=λus=>by
   induction us with
   |nil=>exact λj _=>⟨false,rfl,rfl,by simp⟩
   |cons T us ihu=>
    intro j h
    obtain⟨b,b1,b2,b3⟩:=hbody j T (h 0 T rfl)
    cases b with
    |true=>
     refine⟨true,?_,?_,⟨λ_=>⟨T,by simp,b3.1 rfl⟩,λ_=>rfl⟩⟩
     .show EO (dF (dC m) N pairs (loopsN N M') (j:Int) ()) _=_
      rw[b1];rfl
     .show EO (dV (dZ m') N pairs (loopsN N M') (j:Int) ()) _=_
      rw[b2];rfl
    |false=>
     obtain⟨c,c1,c2,c3⟩:=ihu (j+1) (λi T' hT'=>by
      have:=h (i+1) T' (by simpa using hT')
      rw[show j+(i+1)=(j+1)+i from by omega]at this
      exact this)
     refine⟨c,?_,?_,?_⟩
     .show EO (dF (dC m) N pairs (loopsN N M') (j:Int) ()) _=_
      rw[b1];exact c1
     .show EO (dV (dZ m') N pairs (loopsN N M') (j:Int) ()) _=_
      rw[b2];exact c2
     .rw[c3]
      constructor
      .rintro⟨T',h1,h2⟩;exact⟨T',ED _ h1,h2⟩
      .rintro⟨T',h1,h2⟩
       rcases D3.1 h1 with e|h1
       .subst e;have:=b3.2 h2;cases this
       .exact⟨T',h1,h2⟩
  obtain⟨b,b1,b2,b3⟩:=hloop (loopsN N M') 0 (λi T h=>by rw[Ef];exact h)
  refine⟨b,?_,?_,?_⟩
  .show j7 (dC m) N pairs S=_
   unfold j7
   have b1':cntM (dF (dC m) N pairs (loopsN N M')) (loopsN N M').length 0 ()=_:=b1
   rw[hLs,Fz,b1',Fz]
   cases b <;> rfl
  .show kZ (dZ m') N pairs S=_
   unfold kZ rF
   have b2':cntM (dV (dZ m') N pairs (loopsN N M')) (loopsN N M').length 0 ()=_:=b2
   rw[hN,de (by omega) rfl,Fz,e1,Fz,bK,Fz,hLi,Fz,b2',Fz]
   cases b <;> rfl
  .rw[b3]
   constructor
   .rintro⟨T,hT,C,h1,h2⟩
    exact⟨C,λx hx=>(hpart T hT).2.2.2.1 x (h1 x hx),h2⟩
   .rintro⟨C,h1,h2⟩
    obtain⟨c,hc⟩:=List.exists_mem_of_ne_nil _ h2.ne
    have hCM:∀x,x∈C->In M' x:=λx hx=>(m3 x).2 (h1 x hx)
    have hfar:∀x∈C,∀y∈C,Far2 (scN N M') x y:=λx hx y hy=>by
     obtain⟨z,hz,w⟩:=h2.con x hx y hy
     obtain⟨a1,a2,a3⟩:=iO.1 hz
     rw[Cu]
     exact⟨z,iO.2 ⟨hCM _ a1,hCM _ a2,a3⟩,w.sub hCM⟩
    have hf:Far (scN N M') c:=hfar c hc c hc
    exact⟨partG N M' c,Ab hf,C,λx hx=>du.2 ⟨hCM x hx,(hfar c hc x hx).wy,(hfar x hx c hc).wy⟩,h2⟩
end
end
def sw (v:Key):Key:=(v.2,v.1)
def toR (v:Key):VI:=[v.2,v.1]
theorem CW (K:List Key) (k:Key):loc (K.map sw) (sw k)=loc K k:=by
 unfold loc
 rw[List.findIdx?_map]
 congr 1
 funext v
 rw[E4]
 simp only[Function.comp_apply,beq_iff_eq,sw,Prod.mk.injEq]
 exact⟨λh=>Prod.ext h.2 h.1,λh=>by rw[h];exact⟨rfl,rfl⟩⟩
theorem zr (K:List Key):K.map toR=(K.map sw).map toL:=by rw[List.map_map];rfl
theorem placeR {K:List Key}(hl:K.length<=1000) (k:Key):js (K.map toR) k.2 k.1=some (locI K k):=by
 rw[zr]
 have h:=xG (K:=K.map sw) (by rw[Fh];exact hl) (sw k)
 have a:locI (K.map sw) (sw k)=locI K k:=by unfold locI;rw[CW]
 rw[a]at h
 exact h
def kyB (r:Rival) (d:Det) (ins:Int) (v:Key) (x:Int):Key:=(tab r.Next v.1 x,tab d.Next v.2 (x * ins+inAt r v.1))
def KinB (r:Rival) (d:Det) (K:List Key):Prop:=∀v∈K,0<=v.1/\v.1<r.In.length/\0<=v.2/\v.2<d.Next.length
section
variable {p:Sig}{r:Rival}{d:Det}(hs:sigOk p=true) (hr:rivalOk p r=true) (hd:detOk p d=true){k:Nat}(hk:pw p.Out=(k:Int))
include hs hr hd hk
omit hs in
theorem yH {v:Key}(b:0<=v.1) (e:v.1<r.In.length) (B:0<=v.2) (C:v.2<d.Next.length){x:Nat}(hx:x<k):
 ∃a c,idx r.Next v.1=some a/\idx a (x:Int)=some (kyB r d (pw p.In) v x).1/\idx r.In v.1=some (inAt r v.1)/\idx d.Next v.2=some c/\idx c ((x:Int) * pw p.In+inAt r v.1)=some (kyB r d (pw p.In) v x).2 /\
  0<=inAt r v.1/\inAt r v.1<pw p.In/\0<=(x:Int) * pw p.In/\(x:Int) * pw p.In<=16/\0<=(kyB r d (pw p.In) v x).1/\(kyB r d (pw p.In) v x).1<r.In.length/\0<=(kyB r d (pw p.In) v x).2/\(kyB r d (pw p.In) v x).2<d.Next.length:=by
 obtain⟨_,_,_,A⟩:=dx hd
 obtain⟨f,g,j⟩:=sH hr b e
 have E:=eu p.In
 have F:=eu p.Out
 obtain⟨a,l,m,n,q⟩:=qR hr b e (o:=(x:Int)) (by omega) (by omega)
 have z:0<=(x:Int) * pw p.In:=Int.mul_nonneg (by omega) (by omega)
 have D:(x:Int) * pw p.In<=4 * 4:=Int.mul_le_mul (by omega) (by omega) (by omega) (by omega)
 have y:(x:Int) * pw p.In+inAt r v.1<ltd p:=by
  unfold ltd
  have h:((x:Int)+1) * pw p.In<=pw p.Out * pw p.In:=Int.mul_le_mul (by omega) (by omega) (by omega) (by omega)
  rw[Int.add_mul,Int.one_mul,Int.mul_comm (pw p.Out)]at h
  omega
 obtain⟨c,s,t,u,w⟩:=pe A B C (i:=(x:Int) * pw p.In+inAt r v.1) (by omega) y
 exact⟨a,c,l,m,f,s,t,g,j,z,by omega,n,q,u,w⟩
omit hs in
theorem Ci {K:List Key}(b:KinB r d K){v:Key}(f:v∈K):∀a,a<=k->KinB r d (rowK (kyB r d (pw p.In) v) K a).1:=λa n u c=>by
 obtain⟨g,j,l,m⟩:=b v f
 rcases(jJ (kyB r d (pw p.In) v) K a).mem u c with h|⟨i,hi,e⟩
 .exact b u h
 .subst e
  obtain⟨_,_,_,_,_,_,_,_,_,_,_,h⟩:=yH hr hd hk g j l m (x:=i) (by omega)
  exact h
theorem CP {K:List Key}(hl:K.length<=300) (q:KinB r d K){v:Key}(w:v∈K){row:VI}(l:idx r.Next v.1=some row):
 cntM (gK p r (d,true) v v row) k 0 (K,[],ixm 0 K)=some (.inr ((rowK (kyB r d (pw p.In) v) K k).1,(rowK (kyB r d (pw p.In) v) K k).2,ixm 0 (rowK (kyB r d (pw p.In) v) K k).1)):=by
 obtain⟨E,G,H,I⟩:=q v w
 have X:=eu p.Out
 have W:=eu p.In
 obtain⟨_,Y,_⟩:=fa hr
 obtain⟨_,M,_,_⟩:=dx hd
 obtain⟨Z,m,n⟩:=bR (f:=gK p r (d,true) v v row) (λa b=>b=((rowK (kyB r d (pw p.In) v) K a).1,(rowK (kyB r d (pw p.In) v) K a).2,ixm 0 (rowK (kyB r d (pw p.In) v) K a).1)) k (s:=(K,[],ixm 0 K)) rfl (λa b s o=>by
  subst o
  have i:=jJ (kyB r d (pw p.In) v) K a
  have N:=i.le
  have O:=i.rl
  obtain⟨L,c,g,A,B,C,D,S,T,U,V,x,Q,y,R⟩:=yH hr hd hk E G H I s
  rw[l]at g
  cases g
  refine⟨_,?_,rfl⟩
  have j:rowK (kyB r d (pw p.In) v) K (a+1)=(addK (rowK (kyB r d (pw p.In) v) K a).1 (kyB r d (pw p.In) v a),(rowK (kyB r d (pw p.In) v) K a).2++[atK (rowK (kyB r d (pw p.In) v) K a).1 (kyB r d (pw p.In) v a)]):=rfl
  rw[j]
  unfold gK
  rw[A,Fz,C,Fz,B,Fz,dW hs,Fz,wr' (z:=(a:Int) * pw p.In) (by omega) (by omega),wr' (by omega) (by omega),D,Fz]
  have e:kwI2 (kyB r d (pw p.In) v a)=true:=DJ x (by omega) y (by omega)
  generalize rowK (kyB r d (pw p.In) v) K a=F at *
  generalize kyB r d (pw p.In) v a=u at *
  dsimp only
  rw[show((u.1,u.2):Key)=u from rfl,AX F.1 e,Fz]
  unfold addK atK
  cases t:loc F.1 u with
  |some P=>
   simp only[E5,cond_false,Fz]
   rw[app1 (by omega) rfl]
   rfl
  |none=>
   simp only[FA,cond_true]
   rw[AZ e t,Fz,app1 (by omega) rfl,Fz,Fz]
   dsimp only
   rw[app1 (by omega) rfl]
   rfl)
 rw[m,n]
def SetR (R row:VI):Prop:=Asc R/\∀z,z∈R↔z∈row
omit hs hr hd hk in
theorem Cm {e:Int->Key}{K:List Key}{j:Nat}{K':List Key}{row:VI}(h:RowK e K j K' row):∀z∈row,0<=z/\z<K'.length:=λz c=>by
 obtain⟨d,a⟩:=Ff c
 have g:=(DX.1 a).1
 obtain⟨x,b,i,f⟩:=h.at_ d (by have:=h.rl;omega)
 rw[a]at b
 cases b
 have:=(DX.1 f).1
 omega
theorem Dv {K:List Key}(hl:K.length<=300) (B:KinB r d K){i:Nat}{v:Key}(n:K[i]? =some v){M N:VV}:
 ∃R,bQ (gR p r (d,true) (M,N,(i:Int))) (2 ^ 64) (K.map toR,[],0)=some (.inr ((rowK (kyB r d (pw p.In) v) K k).1.map toR,R,(k:Int)))/\SetR R (rowK (kyB r d (pw p.In) v) K k).2:=by
 obtain⟨W,X,Y,Z⟩:=B v (EF n)
 have an:=eu p.Out
 have am:=eu p.In
 obtain⟨_,E⟩:=db hs
 obtain⟨S,u,w⟩:=cE (f:=gR p r (d,true) (M,N,(i:Int))) (λa e=>a<=k/\∃R,e=((rowK (kyB r d (pw p.In) v) K a).1.map toR,R,(a:Int))/\SetR R (rowK (kyB r d (pw p.In) v) K a).2)
  (λ_=>False) (λe=>∃R,e=((rowK (kyB r d (pw p.In) v) K k).1.map toR,R,(k:Int))/\SetR R (rowK (kyB r d (pw p.In) v) K k).2) k (λa e ⟨ad,R,A,hR⟩=>by
  subst A
  unfold gR fb
  rw[da E,Fz,Fz]
  by_cases m:a<k
  .have g:=jJ (kyB r d (pw p.In) v) K a
   have ae:=g.le
   have af:=g.rl
   obtain⟨ab,c,G,H,I,L,O,P,Q,ak,al,ag,ah,ai,aj⟩:=yH hr hd hk W X Y Z m
   have C:St (rowK (kyB r d (pw p.In) v) K a).1.length R:=⟨hR.1,λx hx=>Cm g x ((hR.2 x).1 hx)⟩
   have ac:=C.len
   obtain⟨R',T,U,V⟩:=tH hR.1 (atK (rowK (kyB r d (pw p.In) v) K a).1 (kyB r d (pw p.In) v a)) (by omega)
   refine⟨.inr (.inr ((rowK (kyB r d (pw p.In) v) K (a+1)).1.map toR,R',((a+1:Nat):Int))),?_,m,by omega,R',rfl,U,λz=>?_⟩
   .have s:idx ((rowK (kyB r d (pw p.In) v) K a).1.map toR) (i:Int)=some (toR v):=by
     rw[bH,List.getElem?_map,g.pre i v n];rfl
    have t:idx (toR v) 0=some v.2:=rfl
    have j:idx (toR v) 1=some v.1:=rfl
    dsimp only
    rw[decide_eq_true (show(a:Int)<pw p.Out by omega),cond_true,s,Fz,Fz,t,Fz,L,Fz,j,Fz,I,Fz,uK hs P Q (by omega) (by omega),Fz,O,Fz,Fz,j,Fz,G,Fz,H,Fz,placeR (by omega),Fz]
    have b:=wM (K:=(rowK (kyB r d (pw p.In) v) K a).1) (k:=kyB r d (pw p.In) v a) (F:=λx y=>EO (gW R y) λaa=>(some (.inr (.inr (x.map toR,aa,ET .i64 ((a:Int)+1)))):Option (Bool⊕((VV×VI×Int)⊕(VV×VI×Int))))) (app:=some ((rowK (kyB r d (pw p.In) v) K a).1++[kyB r d (pw p.In) v a])) rfl
    have q:appS 24 ((rowK (kyB r d (pw p.In) v) K a).1.map toR) [[(kyB r d (pw p.In) v a).2,(kyB r d (pw p.In) v a).1]]=some (((rowK (kyB r d (pw p.In) v) K a).1++[kyB r d (pw p.In) v a]).map toR):=by
     rw[app1 (by rw[Fh];omega) rfl,List.map_append];rfl
    rw[q,Fh]
    rw[T,Fz,wr' (by omega) (by omega),Fz]at b
    have D:((addK (rowK (kyB r d (pw p.In) v) K a).1 (kyB r d (pw p.In) v a)).map toR,R',(a:Int)+1)=((rowK (kyB r d (pw p.In) v) K (a+1)).1.map toR,R',((a+1:Nat):Int)):=rfl
    rw[D]at b
    rw[wr' (z:=(a:Int)+1) (by omega) (by omega)]
    cases l:decide (locI (rowK (kyB r d (pw p.In) v) K a).1 (kyB r d (pw p.In) v a)<0) with
    |true=>
     rw[l]at b
     simp only[cond_true,Fz]at b ⊢
     exact b
    |false=>
     rw[l]at b
     simp only[cond_false,Fz]at b ⊢
     exact b
   .rw[V,hR.2]
    show _↔z∈(rowK (kyB r d (pw p.In) v) K a).2++[_]
    rw[D2,D4]
    exact Or.comm
  .have:a=k:=by omega
   subst this
   refine⟨.inr (.inl _),?_,R,rfl,hR⟩
   dsimp only
   rw[decide_eq_false (by omega),cond_false]) (2 ^ 64) 0 (K.map toR,[],0) (by omega) ⟨Fy _,[],rfl,List.Pairwise.nil,λz=>Iff.rfl⟩ (by omega)
 match S,w with
 |.inr e,⟨R,o,hR⟩=>exact⟨R,by rw[u,o],hR⟩
end
end Go.Proofs.YtfombamjdkihnaaGreat
