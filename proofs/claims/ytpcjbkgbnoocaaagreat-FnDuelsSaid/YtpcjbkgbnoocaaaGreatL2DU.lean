/- Picks that win: both sides find the same. -/
import Derived.Test.YtpcjbkgbnoocaaaGreatL1DU
import Derived.Test.YtpcjbkgbnoocaaaGreatL0DU
set_option linter.unusedVariables false
set_option linter.unusedSimpArgs false
open Option renaming bind → bu, bind_some → bz
open List renaming getElem?_eq_getElem → bB, getElem?_eq_some_iff → gs, replicate → hV, mem_of_getElem? → it, getElem?_replicate → ym, length_append → yq, mem_singleton → yr, length_cons → yu, length_take → yv, length_nil → yw, mem_append → yz, take_add_one → yA, length_map → yC
open Int renaming toNat → yn, toNat_natCast → yt
open Bool renaming and_eq_true → yo, not_true → yp, eq_iff_iff → yx
namespace Go.Proofs.YtpcjbkgbnoocaaaGreat
open Go Go.Wk Go.Proofs
open Classical
theorem sD {n:Nat}{W:Int->Prop}(hn:n<=256) (q:Bool):∃B,fh (wonL n W) (b2i q)=some B/\B.length=n/\In B=Par.Rg (Xn n) (wB W) q:=by
 have hl:=oh n W
 unfold fh
 rw[hl,dv (by omega) rfl,bz]
 obtain⟨s,h1,h2,h3⟩:=fillB (f:=fZ (wonL n W) (b2i q)) (Par.Rg (Xn n) (wB W) q) n (s0:=hV n false) (by simp) (λj s hj hs=>by
  have hx:Xn n (j:Int):=⟨by omega,by omega⟩
  unfold fZ
  rw[kR hx,bz,mM]
  have:(wB W (j:Int)==q)=decide (Par.Rg (Xn n) (wB W) q (j:Int)):=by
   rw[yx,decide_eq_true_iff]
   unfold Par.Rg
   simp[hx]
  rw[this]) (λv hv=>hv.1)
 rw[h1,bz,bE]
 exact⟨s,rfl,h2,funext λv=>propext (h3 v)⟩
theorem vm {n:Nat}{W:Int->Prop}(hn:n<=256) (p:List Int) (q:Bool):∃L,ns ⟨wonL n W,p⟩ (b2i q)=some L/\L.length<=n/\(∀v,v∈L↔Par.Rg (Xn n) (wB W) q v):=by
 have hl:=oh n W
 unfold ns
 dsimp only
 rw[hl,decide_eq_false (by omega),cond_false]
 obtain⟨s,h1,h2,h3⟩:=bL (f:=kw ⟨wonL n W,p⟩ (b2i q)) (λj (s:List Int)=>s.length<=j/\∀v,v∈s↔Par.Rg (Xn n) (wB W) q v/\v<j) n (s:=[]) ⟨by simp,λv=>⟨λh=>absurd h (by simp),λh=>by have:=h.1.1.1;omega⟩⟩ (λj s hj ⟨q1,q2⟩=>by
  have hx:Xn n (j:Int):=⟨by omega,by omega⟩
  unfold kw
  dsimp only
  rw[kR hx,bz,mM,app1 (by omega) rfl]
  cases hc:(wB W (j:Int)==q) with
  | true=>
   have hc:wB W (j:Int)=q:=by simpa using hc
   refine⟨_,rfl,by simp;omega,λv=>?_⟩
   rw[yz,q2,yr]
   constructor
   · rintro(⟨h1,h2⟩ | rfl)
     · exact⟨h1,by omega⟩
     · exact⟨⟨hx,hc⟩,by omega⟩
   · rintro⟨h1,h2⟩
     by_cases e:v=j
     · exact .inr e
     · exact .inl ⟨h1,by omega⟩
  | false=>
   have hc:¬wB W (j:Int)=q:=by simpa using hc
   refine⟨_,rfl,by omega,λv=>?_⟩
   rw[q2]
   constructor
   · rintro⟨h1,h2⟩
     exact⟨h1,by omega⟩
   · rintro⟨h1,h2⟩
     have:v≠j:=λe=>hc (by rw[← e];exact h1.2)
     exact⟨h1,by omega⟩)
 rw[h1,bz,bE]
 exact⟨s,rfl,h2,λv=>by rw[h3];exact⟨λh=>h.1,λh=>⟨h,h.1.2⟩⟩⟩
section
variable {g:Parity}{n:Nat}(hp:cF g=true) (hn:n=g.Prio.length){W:Int->Prop}(hW:Par.Sol (gI g) (Xn n) false W)
include hp hn hW
omit hW in
theorem xF {P:List (List Int)}(hP:PrevT g.Arena.Next n n P){k:List Int}(hk:k.length=n) (hI:Par.PInv (gI g) (Xn n) (wB W) (pkL k)){v:Int}(hv:Xn n v) (ho:(gI g).own v=wB W v){row:List Int}(hr:idx g.Arena.Next v=some row){i:Nat}{u:Int}(h1:row[i]? =some u)
 (h2:wB W u=wB W v/\Par.Dom (Par.pickG (gI g) (Par.updF (pkL k) v u)) (Par.Rg (Xn n) (wB W) (wB W v)) (wB W v) (Par.Rg (Xn n) (wB W) (wB W v)))
 (h3:∀(j:Nat) y,j<i->row[j]? =some y->¬(wB W y=wB W v/\Par.Dom (Par.pickG (gI g) (Par.updF (pkL k) v y)) (Par.Rg (Xn n) (wB W) (wB W v)) (wB W v) (Par.Rg (Xn n) (wB W) (wB W v))))
 {B:List Bool} (hB:B.length=n) (hBR:In B=Par.Rg (Xn n) (wB W) (wB W v)):
 ∃k',mn ⟨g.Arena.Owner,g.Prio,g.Arena.Next,P,k⟩ B v=some (u,k')/\k'.length=n/\pkL k'=Par.updF (pkL k) v u:=by
 have h:=GOk.of hp
 rw[← hn]at h
 have hnd:Par.NoDead (gI g) (Xn n):=nC h (oz hp)
 obtain⟨r1,r2,r3⟩:=h.row v row hr
 have hil:=(gs.1 h1).1
 have hn256:=h.n256
 unfold mn
 obtain⟨o,w1,w2⟩:=bY (f:=iX ⟨g.Arena.Owner,g.Prio,g.Arena.Next,P,k⟩ B v) (λj (t:Int×List Int)=>t.1=(j:Int)/\j<=i/\t.2.length=n/\∃z,pkL t.2=Par.updF (pkL k) v z) (λ(t:Int×List Int)=>t.1=u/\t.2.length=n/\pkL t.2=Par.updF (pkL k) v u) (λ_=>False) i (λj t ⟨a1,a2,a3,z,a4⟩=>by
  obtain⟨j',t⟩:=t
  dsimp only at a1 a3 a4
  subst a1
  have hjl:j<row.length:=by omega
  have hy:row[j]? =some row[j]:=bB hjl
  generalize row[j]=y at hy
  obtain⟨y0,y1⟩:=r3 y (it hy)
  have hyX:Xn n y:=⟨y0,y1⟩
  have hyE:(gI g).E v y:=by show y∈cL g.Arena v;rw[dx hr];exact it hy
  unfold iX
  dsimp only
  rw[hr,bz,decide_eq_true (show(j:Int)<(row.length:Int) by omega),cond_true,bz,bC,hy,bz,fa (B:=B) y0 (by omega),bz]
  have hBy:decide (In B y)=(wB W y==wB W v):=by
   rw[yx,decide_eq_true_iff,hBR]
   unfold Par.Rg
   simp[hyX]
  have hw:IntKind.i64.wrap ((j:Int)+1)=((j+1:Nat):Int):=by rw[wr' (by omega) (by omega)];omega
  rw[hBy]
  cases hc:(wB W y==wB W v) with
  | false=>
   simp only[Bool.not_false,cond_true,hw]
   have hne:¬wB W y=wB W v:=by simpa using hc
   have:j≠i:=λe=>by subst e;rw[h1]at hy;cases hy;exact hne h2.1
   exact⟨_,rfl,by omega,rfl,by omega,a3,z,a4⟩
  | true=>
   have hwy:wB W y=wB W v:=by simpa using hc
   obtain⟨old,hold⟩:=ci (xs:=t) (i:=v) hv.1 (by have:=hv.2;omega)
   obtain⟨t',ht',htl⟩:=cI (xs:=t) (i:=v) y hv.1 (by have:=hv.2;omega)
   have hpk:pkL t'=Par.updF (pkL k) v y:=by rw[pj ht',a4,oF]
   have htn:t'.length=n:=by omega
   have hg:gS ⟨g.Arena.Owner,g.Prio,g.Arena.Next,P,t'⟩=Par.pickG (gI g) (Par.updF (pkL k) v y):=by rw[wi h P htn,hpk]
   have hN:Par.NoDead (gS ⟨g.Arena.Owner,g.Prio,g.Arena.Next,P,t'⟩) (In B):=by
    rw[hg,hBR]
    exact hI.noDead hnd hyE hyX hwy _
   have hh:=wh (h.wfS hP htn) h.pri hB hN (wB W v)
   rw[hg,hBR]at hh
   simp only[yp,cond_false]
   rw[hold,bz,ht',bz,ua h hv,ho,bz,hh,bz]
   by_cases hd:Par.Dom (Par.pickG (gI g) (Par.updF (pkL k) v y)) (Par.Rg (Xn n) (wB W) (wB W v)) (wB W v) (Par.Rg (Xn n) (wB W) (wB W v))
   · rw[decide_eq_true hd,cond_true]
     have:¬j<i:=λhlt=>h3 j y hlt hy ⟨hwy,hd⟩
     have:j=i:=by omega
     subst this
     rw[h1]at hy;cases hy
     exact⟨_,rfl,rfl,htn,hpk⟩
   · rw[decide_eq_false hd,cond_false,hw]
     have:j≠i:=λe=>by subst e;rw[h1]at hy;cases hy;exact hd h2.2
     exact⟨_,rfl,by omega,rfl,by omega,htn,y,hpk⟩) (2 ^ 64) 0 (0,k) (by omega) ⟨rfl,by omega,hk,pkL k v,(qI rfl).symm⟩ (by omega)
 match o,w2 with
 | .inl t,w2=>
  obtain⟨b1,b2,b3⟩:=w2
  obtain⟨t1,t2⟩:=t
  dsimp only at b1 b2 b3
  subst b1
  rw[w1,bz,um]
  exact⟨t2,rfl,b2,b3⟩
omit hW in
theorem xS {k:List Int}(hk:k.length=n) (hI:Par.PInv (gI g) (Xn n) (wB W) (pkL k)){v:Int}(hv:Xn n v) (hkv:pkL k v= -1){row:List Int}(hr:idx g.Arena.Next v=some row){i:Nat}{u:Int}(h1:row[i]? =some u)
 (h2:wB W u=wB W v/\Par.Dom (Par.pickG (gI g) (Par.updF (pkL k) v u)) (Par.Rg (Xn n) (wB W) (wB W v)) (wB W v) (Par.Rg (Xn n) (wB W) (wB W v)))
 (h3:∀(j:Nat) y,j<i->row[j]? =some y->¬(wB W y=wB W v/\Par.Dom (Par.pickG (gI g) (Par.updF (pkL k) v y)) (Par.Rg (Xn n) (wB W) (wB W v)) (wB W v) (Par.Rg (Xn n) (wB W) (wB W v))))
 {L:List Int} (hL:∀v',v'∈L↔Par.Rg (Xn n) (wB W) (wB W v) v'):
 ∃k',cntM (iO g (wonL n W) v L row) row.length 0 k=some (.inr k')/\k'.length=n/\pkL k'=Par.updF (pkL k) v u:=by
 have h:=GOk.of hp
 rw[← hn]at h
 have hnd:Par.NoDead (gI g) (Xn n):=nC h (oz hp)
 obtain⟨r1,r2,r3⟩:=h.row v row hr
 have hil:=(gs.1 h1).1
 have hn256:=h.n256
 have hLe:(λv'=>v'∈L)=Par.Rg (Xn n) (wB W) (wB W v):=funext λv'=>propext (hL v')
 obtain⟨o,w1,w2⟩:=ss (f:=iO g (wonL n W) v L row) (λj (t:List Int)=>j<=i/\t.length=n/\pkL t=pkL k) (λ_=>False) (λ(t:List Int)=>t.length=n/\pkL t=Par.updF (pkL k) v u) row.length (s:=k) ⟨by omega,hk,rfl⟩ (λj t hjl ⟨a2,a3,a4⟩=>by
  have hy:row[j]? =some row[j]:=bB hjl
  generalize row[j]=y at hy
  obtain⟨y0,y1⟩:=r3 y (it hy)
  have hyX:Xn n y:=⟨y0,y1⟩
  have hyE:(gI g).E v y:=by show y∈cL g.Arena v;rw[dx hr];exact it hy
  unfold iO
  rw[bC,hy,bz,kR hyX,bz,kR hv,bz]
  have hbne:(b2i (wB W y) !=b2i (wB W v))= !(wB W y==wB W v):=by unfold bne;rw[mM]
  rw[hbne]
  cases hc:(wB W y==wB W v) with
  | false=>
   simp only[Bool.not_false,cond_true]
   have hne:¬wB W y=wB W v:=by simpa using hc
   have:j≠i:=λe=>by subst e;rw[h1]at hy;cases hy;exact hne h2.1
   exact⟨_,rfl,by omega,a3,a4⟩
  | true=>
   have hwy:wB W y=wB W v:=by simpa using hc
   obtain⟨old,hold⟩:=ci (xs:=t) (i:=v) hv.1 (by have:=hv.2;omega)
   obtain⟨t',ht',htl⟩:=cI (xs:=t) (i:=v) y hv.1 (by have:=hv.2;omega)
   obtain⟨old',hold'⟩:=ci (xs:=t') (i:=v) hv.1 (by have:=hv.2;omega)
   obtain⟨t'',ht'',htl'⟩:=cI (xs:=t') (i:=v) (-1) hv.1 (by have:=hv.2;omega)
   have hpk:pkL t'=Par.updF (pkL k) v y:=by rw[pj ht',a4]
   have hpk':pkL t''=pkL k:=by rw[pj ht'',hpk,oF,qI hkv]
   have htn:t'.length=n:=by omega
   obtain⟨g',e1,e2,e3⟩:=we hp hn htn (λx hx=>by
    rw[hpk]at hx ⊢
    unfold Par.updF at hx ⊢
    by_cases e:x=v
    · rw[if_pos e];subst e;exact hyE
    · rw[if_neg e]at hx ⊢
      exact(hI.pick x hx).2.2.1)
   rw[hpk]at e3
   have hN:Par.NoDead (gI g') (λv'=>v'∈L):=by
    rw[e3,hLe]
    exact hI.noDead hnd hyE hyX hwy _
   obtain⟨E,O,W',f1,f2,f3,f4,f5,f6⟩:=sK e2 (L:=L) (λv' hv'=>((hL v').1 hv').1) hN
   rw[e3,hLe]at f2
   have hh:=Par.hold_iff (q:=wB W v) f2
   simp only[yp,cond_false]
   rw[hold,bz,ht',bz,e1,bz,f1,bz,bz]
   dsimp only
   have key:(bif !wB W v then((O.length:Int)==0) else((E.length:Int)==0))=decide (Par.Dom (Par.pickG (gI g) (Par.updF (pkL k) v y)) (Par.Rg (Xn n) (wB W) (wB W v)) (wB W v) (Par.Rg (Xn n) (wB W) (wB W v))):=by
    rw[yx,decide_eq_true_iff,← hh]
    cases hq:wB W v with
    | false=>
     simp only[Bool.not_false,cond_true]
     rw[show(((O.length:Int)==0)=true)↔O=[] from by simp]
     constructor
     · intro e x hx
       refine⟨λ_=>trivial,λ_=>?_⟩
       apply Classical.byContradiction
       intro hn'
       have:=(f4 x).2 ⟨(hL x).2 (by rw[hq];exact hx),hn'⟩
       rw[e]at this;cases this
     · intro ha
       cases hO:O with
       | nil=>rfl
       | cons x xs=>
        obtain⟨c1,c2⟩:=(f4 x).1 (by rw[hO];exact List.mem_cons_self ..)
        exact absurd ((ha x (by have:=(hL x).1 c1;rwa [hq]at this)).2 trivial) c2
    | true=>
     simp only[yp,cond_false]
     rw[show(((E.length:Int)==0)=true)↔E=[] from by simp]
     constructor
     · intro e x hx
       refine⟨λhw'=>?_,λh'=>absurd h' (by decide)⟩
       have:=(f3 x).2 hw'
       rw[e]at this;cases this
     · intro ha
       cases hE:E with
       | nil=>rfl
       | cons x xs=>
        have c1:=(f3 x).1 (by rw[hE];exact List.mem_cons_self ..)
        have:=(ha x (by have:=f2.sub x c1;rwa [hq]at this)).1 c1
        cases this
   have e0:∀(a b q:Bool) {β:Type} (F:Bool->Option β),(bu (bif (b2i q==0) then some a else some false) λp88=>bu (bif p88 then some true else bu (some (b2i q)) λx92=>bu (bif (x92==1) then some b else some false) λp99=>some p99) F)=F (bif !q then a else b):=by
    intro a b q β F
    cases q <;> cases a <;> cases b <;> rfl
   rw[e0,key]
   by_cases hd:Par.Dom (Par.pickG (gI g) (Par.updF (pkL k) v y)) (Par.Rg (Xn n) (wB W) (wB W v)) (wB W v) (Par.Rg (Xn n) (wB W) (wB W v))
   · rw[decide_eq_true hd,cond_true]
     have:¬j<i:=λhlt=>h3 j y hlt hy ⟨hwy,hd⟩
     have:j=i:=by omega
     subst this
     rw[h1]at hy;cases hy
     exact⟨_,rfl,htn,hpk⟩
   · rw[decide_eq_false hd,cond_false,hold',bz,ht'',bz]
     have:j≠i:=λe=>by subst e;rw[h1]at hy;cases hy;exact hd h2.2
     exact⟨_,rfl,by omega,by omega,hpk'⟩)
 match o,w2 with
 | .inr t,w2=>
  rcases w2 with ⟨hle,_⟩ | w2
  · omega
  · exact⟨t,w1,w2.1,w2.2⟩
omit hp hn hW in
theorem nv {n:Nat}(v:Int):pkL (hV n (-1)) v= -1:=by
 unfold pkL
 cases h:idx (hV n (-1:Int)) v with
 | none=>rfl
 | some x=>
  obtain⟨v0,v1⟩:=cr h
  rw[cX v0,ym]at h
  split at h
  · cases h;rfl
  · cases h
omit hW in
theorem tq {A:List Int}(hA:g6 g=some A) (hAl:A.length<=256):kc g (hV n (-1))=some true:=by
 have h:=GOk.of hp
 rw[← hn]at h
 obtain⟨h1,h2,h3,h4,h5⟩:=dN hp
 have hO:mE g (hV n (-1))=some (g,true):=by
  unfold mE
  rw[ng,hp,bz]
  have hP:kB g (hV n (-1))=some true:=by
   unfold kB
   rw[List.length_replicate,← hn]
   have:=c8 (f:=gD g (hV n (-1))) (r:=false) (λ_:Int=>true) (xs:=hV n (-1)) (n:=n) (by simp) (λi x hx=>by
    unfold gD
    have hx':x= -1:=by
     rw[ym]at hx
     split at hx
     · cases hx;rfl
     · cases hx
    rw[bC,hx,bz,hx'];rfl)
   rw[this]
   simp only[bne_self_eq_false,cond_false,List.all_eq_true,implies_true,if_true,bz,bE]
  rw[hP]
  simp only[yp,cond_false,bz]
  rw[tE (by have:=h.lo;have:=h.n256;omega),bz,tE (by omega),bz,List.length_replicate]
  obtain⟨s,e1,e2⟩:=bL (f:=iQ g (hV n (-1))) (λj (s:List (List Int))=>s=g.Arena.Next.take j) n (s:=[]) rfl (λj s hj hs=>by
   subst hs
   have hx:g.Arena.Next[j]? =some (g.Arena.Next[j]'(by have:=h.ln;omega)):=bB (by have:=h.ln;omega)
   generalize g.Arena.Next[j]'(by have:=h.ln;omega)=row at hx
   obtain⟨r1,_,_⟩:=h.row (j:Int) row (by rw[bC];exact hx)
   have hk:idx (hV n (-1:Int)) (j:Int)=some (-1):=by rw[bC,ym,if_pos hj]
   unfold iQ
   rw[bC,hx,bz,tE (by omega),bz,hk,bz]
   simp only[show decide ((0:Int)<= -1)=false from rfl,cond_false,bz]
   rw[app1 (by rw[yv];omega) rfl,bz]
   refine⟨_,rfl,?_⟩
   rw[yA,hx];rfl)
  rw[e1,e2,bz,bE,List.take_of_length_le (by have:=h.ln;omega)]
 unfold kc
 rw[hO,bz]
 dsimp only
 rw[cond_true,hA,bz,bz]
 have hS:l9 A A=some true:=by
  unfold l9
  have:=c8 (f:=jh A A) (r:=false) (λ_:Int=>true) (xs:=A) (n:=A.length) rfl (λi x hx=>by
   unfold jh
   rw[bC,hx,bz,bz]
   simp)
  rw[this]
  simp only[bne_self_eq_false,cond_false,List.all_eq_true,implies_true,if_true,bz,bE]
 rw[hS];rfl
theorem tT (hA:g6 g=some (wonL n W)):∃k,jO g (hV n (-1))=some (⟨wonL n W,k⟩,true)/\nt g (hV n (-1)) (wonL n W)=some ⟨wonL n W,k⟩/\k.length=n/\(∀v x,idx k v=some x->x= -1\/0<=x)/\Par.Ans (gI g) (Xn n) (wB W) (pkL k):=by
 have h:=GOk.of hp
 rw[← hn]at h
 have hn256:=h.n256
 have hwl:=oh n W
 obtain⟨P,p1,p2⟩:=ud h
 obtain⟨B0,c1,c2,c3⟩:=sD (W:=W) hn256 false
 obtain⟨B1,d1,d2,d3⟩:=sD (W:=W) hn256 true
 have c1:fh (wonL n W) 0=some B0:=c1
 have d1:fh (wonL n W) 1=some B1:=d1
 unfold jO nt
 rw[tq hp hn hA (by omega),bz,hA,p1,List.length_replicate,appL (by simp;omega) rfl]
 simp only[yp,cond_false,bz,List.nil_append,List.length_replicate,hwl]
 obtain⟨s0,e1,e2⟩:=bL (f:=fO g (hV n (-1)) (wonL n W)) (λj (s:List Int)=>s=hV n (-1)) n (s:=hV n (-1)) rfl (λj s hj hs=>by
  subst hs
  have hk:idx (hV n (-1:Int)) (j:Int)=some (-1):=by rw[bC,ym,if_pos hj]
  unfold fO
  rw[hk]
  simp only[bz,show((-1:Int) != -1)=false from rfl,cond_false]
  rw[gV (by simp;omega),bz]
  refine⟨_,rfl,?_⟩
  apply List.ext_getElem?
  intro i
  rw[List.getElem?_set]
  simp only[ym,List.length_replicate]
  split
  · rename_i e;subst e;rw[if_pos hj]
  · rfl)
 subst e2
 rw[e1,bz,bE,c1,bz,d1,bz]
 obtain⟨s,t,f1,f2,rfl,f3,f4,f5,f6,f7⟩:=rq (f:=fS g (wonL n W) ⟨g.Arena.Owner,g.Prio,g.Arena.Next,P,hV n (-1)⟩ B0 B1) (g:=kn g (wonL n W)) (λj (s t:List Int)=>s=t/\s.length=n/\Par.PInv (gI g) (Xn n) (wB W) (pkL s)/\(∀i:Nat,j<=i->pkL s i= -1)/\(∀v,Xn n v->v<j->(gI g).own v=wB W v->0<=pkL s v)/\(∀v x,idx s v=some x->x= -1\/0<=x)) n (s:=hV n (-1)) (t:=hV n (-1)) ⟨rfl,by simp,Par.PInv.start hW (λv _=>vh) (λv=>by rw[nv];decide),λi _=>nv _,λv hv hj=>by have:=hv.1;omega,λv x hx=> .inl (by rw[← qq hx];exact nv v)⟩ (λj s t hj ⟨e,g1,g2,g3,g4,g5⟩=>by
  subst e
  have hv:Xn n (j:Int):=⟨by omega,by omega⟩
  have hkj:=mO g1 hv.1 hv.2
  rw[g3 j (Nat.le_refl j)]at hkj
  unfold fS kn
  rw[hkj,kR hv,ua h hv]
  simp only[bz,show decide ((0:Int)<= -1)=false from rfl,cond_false]
  by_cases ho:(gI g).own (j:Int)=wB W (j:Int)
  · -- a pick
    obtain⟨row,hr⟩:=ci (xs:=g.Arena.Next) (i:=(j:Int)) (by omega) (by have:=h.ln;omega)
    obtain⟨u,u1,u2,u3,u4⟩:=g2.ex hv ho (by rw[g3 j (Nat.le_refl j)];decide)
    obtain⟨i,u,h1,h2,h3⟩:=sG (row:=row) (C:=λu=>wB W u=wB W (j:Int)/\Par.Dom (Par.pickG (gI g) (Par.updF (pkL s) j u)) (Par.Rg (Xn n) (wB W) (wB W j)) (wB W j) (Par.Rg (Xn n) (wB W) (wB W j))) ⟨u,by have:u∈cL g.Arena j:=u1;rwa [dx hr]at this,u3,u4⟩
    have huE:(gI g).E (j:Int) u:=by show u∈cL g.Arena j;rw[dx hr];exact it h1
    have huX:=(ya h huE).2
    obtain⟨L,l1,l2,l3⟩:=vm (W:=W) hn256 [] (wB W (j:Int))
    obtain⟨B,hB1,hB2,hB3⟩:∃B,(bif (b2i (wB W (j:Int))==1) then some B1 else some B0)=some B/\B.length=n/\In B=Par.Rg (Xn n) (wB W) (wB W j):=by
     cases hq:wB W (j:Int) with
     | true=>exact⟨B1,rfl,d2,d3⟩
     | false=>exact⟨B0,rfl,c2,c3⟩
    obtain⟨k',k1,k2,k3⟩:=xF hp hn p2 g1 g2 hv ho hr h1 h2 h3 hB2 hB3
    obtain⟨k'',m1,m2,m3⟩:=xS hp hn g1 g2 hv (g3 j (Nat.le_refl j)) hr h1 h2 h3 l3
    have:k''=k':=uq m2 k2 (by rw[m3,k3])
    subst this
    obtain⟨old,hold⟩:=ci (xs:=k'') (i:=(j:Int)) (by omega) (by omega)
    obtain⟨z,hz,hzl⟩:=cI (xs:=k'') (i:=(j:Int)) u (by omega) (by omega)
    have:z=k'':=uq (n:=n) (by omega) k2 (by rw[pj hz,k3,oF])
    subst this
    have e1':(b2i (wB W (j:Int)) !=b2i ((gI g).own (j:Int)))=false:=by rw[ho];simp
    have e2':(b2i ((gI g).own (j:Int)) !=b2i (wB W (j:Int)))=false:=by rw[ho];simp
    rw[e1',e2',cond_false,cond_false,bz,cond_false,hB1,bz,k1,bz]
    dsimp only
    rw[hold,bz,hz,bz,l1,bz,hr,bz,m1,bz,bE]
    refine⟨_,_,rfl,rfl,rfl,k2,?_,λi' hi'=>?_,λv hvx hvj hvo=>?_,λv x hx=>?_⟩
    · rw[k3];exact g2.step hv ho huE huX h2.1 h2.2
    · rw[k3]
      unfold Par.updF
      rw[if_neg (by omega)]
      exact g3 i' (by omega)
    · rw[k3]
      unfold Par.updF
      by_cases e:v=j
      · rw[if_pos e];exact huX.1
      · rw[if_neg e];exact g4 v hvx (by omega) hvo
    · have:=qq hx
      rw[k3]at this
      unfold Par.updF at this
      by_cases e:v=j
      · rw[if_pos e]at this;rw[← this];exact .inr huX.1
      · rw[if_neg e]at this
        obtain⟨v0,v1⟩:=cr hx
        have hs:=mO g1 v0 (by omega)
        rw[this]at hs
        exact g5 v x hs
  · have e1':(b2i (wB W (j:Int)) !=b2i ((gI g).own (j:Int)))=true:=by
     unfold bne;rw[mM]
     cases hx:wB W (j:Int) <;> cases hy:(gI g).own (j:Int) <;> simp_all
    have e2':(b2i ((gI g).own (j:Int)) !=b2i (wB W (j:Int)))=true:=by
     unfold bne;rw[mM]
     cases hx:wB W (j:Int) <;> cases hy:(gI g).own (j:Int) <;> simp_all
    rw[e1',e2',cond_true,cond_true,bz,cond_true]
    refine⟨_,_,rfl,rfl,rfl,g1,g2,λi' hi'=>g3 i' (by omega),λv hvx hvj hvo=>?_,g5⟩
    have:v≠j:=λe=>ho (by rw[← e];exact hvo)
    exact g4 v hvx (by omega) hvo)
 rw[f1,f2,bz,bz,bE,bE,appL (by simp;omega) rfl,bz,List.nil_append]
 exact⟨s,rfl,rfl,f3,f7,f4.ans λv hv hvo=>f6 v hv hv.2 hvo⟩
end
end Go.Proofs.YtpcjbkgbnoocaaaGreat
set_option linter.unusedVariables false
set_option linter.unusedSimpArgs false
namespace Go.Proofs.YtpcjbkgbnoocaaaGreat
open Go Go.Wk Go.Proofs
open Classical
theorem tf {g:Parity}{n:Nat}(h:GOk g n):pR g.Arena=some (hV n (-1)):=by
 have hn:=h.n256
 unfold pR
 rw[h.lo,dv (by omega) rfl,bz,List.length_replicate]
 obtain⟨s,h1,h2,h3⟩:=fill (f:=oN) (λ_=> -1) n (s0:=hV n 0) (by simp) (λj s hj hs=>rfl)
 rw[h1,bz,bE]
 congr 1
 apply List.ext_getElem?
 intro i
 rw[ym]
 by_cases hi:i<n
 · rw[if_pos hi,← bC];exact h3 i hi
 · rw[if_neg hi];exact List.getElem?_eq_none (by omega)
theorem sV {n:Nat}(hn:n<=256):mr (n:Int)=some (hV n (-1)):=by
 unfold mr
 have hr:rng (n:Int)=some ():=by
  unfold rng
  first
   | rfl
   | rw[if_pos (by omega)]
 rw[hr,bz,show yn ((n:Int)-0)=n from by omega]
 obtain⟨s,h1,h2⟩:=bL (f:=jg) (λj (s:List Int)=>s=hV j (-1)) n (s:=[]) rfl (λj s hj hs=>by
  subst hs
  unfold jg
  rw[app1 (by simp;omega) rfl,bz]
  exact⟨_,rfl,by rw[List.replicate_succ']⟩)
 rw[h1,bz,bE,h2]
structure Solv (g:Parity) (W:Int->Prop) (k:List Int):Prop where
 sol:Par.Sol (gI g) (Xn g.Prio.length) false W
 len:k.length=g.Prio.length
 pick:∀v x,idx k v=some x->x= -1\/0<=x
 ans:Par.Ans (gI g) (Xn g.Prio.length) (wB W) (pkL k)
theorem se {g:Parity}(hp:cF g=true):∃W k,j0 g=some ⟨wonL g.Prio.length W,k⟩/\lY g=some ⟨wonL g.Prio.length W,k⟩/\g6 g=some (wonL g.Prio.length W)/\iK g=some (wonL g.Prio.length W)/\Solv g W k:=by
 have h:=GOk.of hp
 obtain⟨W,a1,a2,a3⟩:=vS h (oz hp)
 obtain⟨k,k1,k2,k3,k4,k5⟩:=tT hp rfl a3 a1
 refine⟨W,k,?_,?_,a1,a2,a3,k3,k4,k5⟩
 · unfold j0
   rw[ng,hp,bz,yp,cond_false,sV h.n256,bz,k1];rfl
 · unfold lY
   rw[qD,hp,bz,yp,cond_false,tf h,bz,a2,bz,k2];rfl
end Go.Proofs.YtpcjbkgbnoocaaaGreat
set_option linter.unusedVariables false
set_option linter.unusedSimpArgs false
namespace Go.Proofs.YtpcjbkgbnoocaaaGreat
open Go Go.Wk Go.Proofs
def lasso (b:Int->Int):Nat->List Int->Int->List Int×Int
 | 0,T,q=>(T,q)
 | k+1,T,q=>if q∈T then(T,q) else lasso b k (T++[q]) (b q)
theorem qd {b:Int->Int}{n:Nat}(hb:∀q:Int,0<=q->q<n->0<=b q/\b q<n):∀(k:Nat) (T:List Int) (q:Int),n<k+T.length->T.Nodup->(∀x∈T,0<=x/\x<n)->0<=q->q<n ->
 (lasso b k T q).2∈(lasso b k T q).1/\(lasso b k T q).1.Nodup/\(∀x∈(lasso b k T q).1,0<=x/\x<n)
 | 0,T,q,hk,hn,hr,_,_=>absurd (cT n T hn hr) (by omega)
 | k+1,T,q,hk,hn,hr,q0,q1=>by
  unfold lasso
  by_cases hq:q∈T
  · rw[if_pos hq];exact⟨hq,hn,hr⟩
  · rw[if_neg hq]
    have hn':(T++[q]).Nodup:=by
     rw[List.nodup_append]
     refine⟨hn,by simp,λa ha c hc e=>?_⟩
     rw[yr]at hc
     exact hq (by rw[← hc,← e];exact ha)
    exact qd hb k (T++[q]) (b q) (by simp;omega) hn' (λx hx=>by
     rw[yz,yr]at hx
     rcases hx with hx | rfl
     · exact hr x hx
     · exact⟨q0,q1⟩) (hb q q0 q1).1 (hb q q0 q1).2
theorem ox {ρ σ:Type}{f:σ->Option (ρ⊕(σ⊕σ))}(st:List Int->Int->σ){b:Int->Int}{n:Nat}(hb:∀q:Int,0<=q->q<n->0<=b q/\b q<n)
 (hf:∀(T:List Int) (q:Int),T.length<=n->(∀x∈T,0<=x/\x<(n:Int))->0<=q->q<n->f (st T q)=some (if q∈T then .inr (.inl (st T q)) else .inr (.inr (st (T++[q]) (b q))))):
 ∀(k:Nat) (K:Nat) (T:List Int) (q:Int),n<k+T.length->k<=K->T.Nodup->(∀x∈T,0<=x/\x<n)->0<=q->q<n->bI f K (st T q)=some (.inr (st (lasso b k T q).1 (lasso b k T q).2))
 | 0,K,T,q,hk,_,hn,hr,_,_=>absurd (cT n T hn hr) (by omega)
 | k+1,K,T,q,hk,hK,hn,hr,q0,q1=>by
  rw[gg (by omega),hf T q (cT n T hn hr) hr q0 q1,bz]
  unfold lasso
  by_cases hq:q∈T
  · simp only[hq,if_true];rfl
  · simp only[hq,if_false]
    have hn':(T++[q]).Nodup:=by
     rw[List.nodup_append]
     refine⟨hn,by simp,λa ha c hc e=>?_⟩
     rw[yr]at hc
     exact hq (by rw[← hc,← e];exact ha)
    exact ox st hb hf k (K-1) (T++[q]) (b q) (by simp;omega) (by omega) hn' (λx hx=>by
     rw[yz,yr]at hx
     rcases hx with hx | rfl
     · exact hr x hx
     · exact⟨q0,q1⟩) (hb q q0 q1).1 (hb q q0 q1).2
theorem qO {ρ σ:Type}{f:σ->Option (ρ⊕(σ⊕σ))}(st:List Int->Int->σ) (g:List Int->Int->ρ){b:Int->Int}{n:Nat}(hb:∀q:Int,0<=q->q<n->0<=b q/\b q<n)
 (hf:∀(T:List Int) (q:Int),T.Nodup->(∀x∈T,0<=x/\x<(n:Int))->0<=q->q<n->f (st T q)=some (if q∈T then .inl (g T q) else .inr (.inr (st (T++[q]) (b q))))):
 ∀(k:Nat) (K:Nat) (T:List Int) (q:Int),n<k+T.length->k<=K->T.Nodup->(∀x∈T,0<=x/\x<n)->0<=q->q<n->bI f K (st T q)=some (.inl (g (lasso b k T q).1 (lasso b k T q).2))
 | 0,K,T,q,hk,_,hn,hr,_,_=>absurd (cT n T hn hr) (by omega)
 | k+1,K,T,q,hk,hK,hn,hr,q0,q1=>by
  rw[gg (by omega),hf T q hn hr q0 q1,bz]
  unfold lasso
  by_cases hq:q∈T
  · simp only[hq,if_true];rfl
  · simp only[hq,if_false]
    have hn':(T++[q]).Nodup:=by
     rw[List.nodup_append]
     refine⟨hn,by simp,λa ha c hc e=>?_⟩
     rw[yr]at hc
     exact hq (by rw[← hc,← e];exact ha)
    exact qO st g hb hf k (K-1) (T++[q]) (b q) (by simp;omega) (by omega) hn' (λx hx=>by
     rw[yz,yr]at hx
     rcases hx with hx | rfl
     · exact hr x hx
     · exact⟨q0,q1⟩) (hb q q0 q1).1 (hb q q0 q1).2
def cS (xs:List Int) (v:Int):Int:=match xs.findIdx? (λx=>v==x) with | some i=>(i:Int) | none=> -1
theorem oI {xs:List Int}{v:Int}(h:v∉xs):cS xs v= -1:=by
 unfold cS
 have:xs.findIdx? (λx=>v==x)=none:=by
  rw[List.findIdx?_eq_none_iff]
  intro x hx
  simp only[beq_eq_false_iff_ne]
  exact λe=>h (e ▸ hx)
 rw[this]
theorem nL {xs:List Int}{v:Int}(h:v∈xs):∃i:Nat,cS xs v=(i:Int)/\i<xs.length/\xs[i]? =some v:=by
 unfold cS
 cases hf:xs.findIdx? (λx=>v==x) with
 | none=>
  rw[List.findIdx?_eq_none_iff]at hf
  have:=hf v h
  simp at this
 | some i=>
  rw[List.findIdx?_eq_some_iff_getElem]at hf
  obtain⟨h1,h2,_⟩:=hf
  refine⟨i,rfl,h1,?_⟩
  rw[bB h1]
  have:=beq_iff_eq.1 h2
  rw[← this]
theorem wz (xs:List Int) (v:Int):xs.any (λx=>v==x)=decide (v∈xs):=by
 rw[yx,List.any_eq_true,decide_eq_true_eq]
 constructor
 · rintro⟨x,hx,e⟩
   rw[beq_iff_eq]at e
   exact e ▸ hx
 · exact λh=>⟨v,h,by simp⟩
theorem vo (xs:List Int) (v:Int):decide (cS xs v<0)= !decide (v∈xs):=by
 by_cases h:v∈xs
 · obtain⟨i,h1,_⟩:=nL h
   rw[h1]
   have:¬(i:Int)<0:=by omega
   simp[h,this]
 · rw[oI h]
   simp[h]
theorem eH {part:Int->List Int}{l:Nat}(hp:∀x,(part x).length=l):∀T:List Int,(T.flatMap part).length=T.length * l
 | []=>by simp
 | x::T=>by rw[List.flatMap_cons,yq,hp,eH hp T,yu,Nat.add_mul,Nat.one_mul,Nat.add_comm]
theorem uF {part:Int->List Int}{l:Nat}(hp:∀x,(part x).length=l) (T:List Int) (k:Nat):(T.flatMap part).take (k * l)=(T.take k).flatMap part/\(T.flatMap part).drop (k * l)=(T.drop k).flatMap part:=by
 by_cases hk:k<=T.length
 · have e:T.flatMap part=(T.take k).flatMap part++(T.drop k).flatMap part:=by rw[← List.flatMap_append,List.take_append_drop]
   have hl:((T.take k).flatMap part).length=k * l:=by rw[eH hp,yv,Nat.min_eq_left hk]
   rw[e]
   exact⟨by rw[List.take_append_of_le_length (by omega),List.take_of_length_le (by omega)],by rw[List.drop_append_of_le_length (by omega),List.drop_of_length_le (by omega),List.nil_append]⟩
 · have hl:=eH hp T
   have:T.length * l<=k * l:=Nat.mul_le_mul_right _ (by omega)
   rw[List.take_of_length_le (by omega),List.drop_of_length_le (by omega),List.take_of_length_le (by omega),List.drop_of_length_le (by omega)]
   exact⟨rfl,rfl⟩
theorem tL {part:Int->List Int}{l:Nat}(hp:∀x,(part x).length=l) (A:List Int){T:List Int}{k:Nat}(hk:k<=T.length):
 subS (A++T.flatMap part) 0 ((A.length+k * l:Nat):Int)=some (A++(T.take k).flatMap part)/\subS (A++T.flatMap part) ((A.length+k * l:Nat):Int) ((A++T.flatMap part).length:Int)=some ((T.drop k).flatMap part):=by
 have hkl:k * l<=T.length * l:=Nat.mul_le_mul_right _ hk
 have hlen:(A++T.flatMap part).length=A.length+T.length * l:=by rw[yq,eH hp]
 have ht:=uF hp T k
 constructor
 · unfold subS
   rw[if_pos ⟨by omega,by omega,by rw[hlen];omega⟩]
   rw[yt,Int.toNat_zero,List.drop_zero,List.take_length_add_append,ht.1]
 · unfold subS
   rw[if_pos ⟨by omega,by rw[hlen];omega,by omega⟩]
   rw[yt,yt,List.take_length,List.drop_length_add_append,ht.2]
end Go.Proofs.YtpcjbkgbnoocaaaGreat
set_option linter.unusedVariables false
set_option linter.unusedSimpArgs false
namespace Go.Proofs.YtpcjbkgbnoocaaaGreat
open Go Go.Wk Go.Proofs
theorem lL (xs:List Int) (v:Int):iq xs v=some (cS xs v):=by
 unfold iq cS
 rw[dC (f:=gR xs v) (λx=>v==x) (λi=>(i:Int)) (xs:=xs) (λi x hx=>by
  unfold gR
  rw[bC,hx,bz,show(x==v)=(v==x) from BEq.comm]
  cases v==x <;> rfl),bz]
 cases xs.findIdx? (λx=>v==x) <;> rfl
end Go.Proofs.YtpcjbkgbnoocaaaGreat
set_option linter.unusedVariables false
set_option linter.unusedSimpArgs false
namespace Go.Proofs.YtpcjbkgbnoocaaaGreat
open Go Go.Wk Go.Proofs
theorem mg (xs:List Int) (v:Int):ch xs v=some (cS xs v):=gk xs v
end Go.Proofs.YtpcjbkgbnoocaaaGreat
set_option linter.unusedVariables false
set_option linter.unusedSimpArgs false
namespace Go.Proofs.YtpcjbkgbnoocaaaGreat
open Go Go.Wk Go.Proofs
def addN (xs:List Int) (u:Int):List Int:=if u∈xs then xs else xs++[u]
theorem uS {xs:List Int}{u:Int}(h:u∉xs):cS (xs++[u]) u=(xs.length:Nat):=by
 unfold cS
 have:(xs++[u]).findIdx? (λx=>u==x)=some xs.length:=by
  rw[List.findIdx?_append]
  have h1:xs.findIdx? (λx=>u==x)=none:=by
   rw[List.findIdx?_eq_none_iff]
   intro x hx
   simp only[beq_eq_false_iff_ne]
   exact λe=>h (e ▸ hx)
  rw[h1]
  simp
 rw[this]
def Names (n:Nat) (xs:List Int):Prop:=xs.Nodup/\∀x∈xs,0<=x/\x<n
theorem Names.len {n:Nat}{xs:List Int}(h:Names n xs):xs.length<=n:=cT n xs h.1 h.2
theorem Names.add {n:Nat}{xs:List Int}(h:Names n xs){u:Int}(u0:0<=u) (u1:u<n):Names n (addN xs u)/\∀(k:Nat) v,xs[k]? =some v->(addN xs u)[k]? =some v:=by
 unfold addN
 by_cases hu:u∈xs
 · rw[if_pos hu];exact⟨h,λk v hk=>hk⟩
 · rw[if_neg hu]
   refine⟨⟨?_,λx hx=>?_⟩,λk v hk=>?_⟩
   · rw[List.nodup_append]
     refine⟨h.1,by simp,λa ha c hc e=>?_⟩
     rw[yr]at hc
     exact hu (by rw[← hc,← e];exact ha)
   · rw[yz,yr]at hx
     rcases hx with hx | rfl
     · exact h.2 x hx
     · exact⟨u0,u1⟩
   · rw[List.getElem?_append_left (gs.1 hk).1];exact hk
end Go.Proofs.YtpcjbkgbnoocaaaGreat
set_option linter.unusedVariables false
set_option linter.unusedSimpArgs false
namespace Go.Proofs.YtpcjbkgbnoocaaaGreat
open Go Go.Wk Go.Proofs
theorem xI {x k:Place}(h:(x.At==k.At&&x.Record==k.Record)=true):x=k:=by
 rw[yo,beq_iff_eq,beq_iff_eq]at h
 cases x
 cases k
 simp only at h
 rw[h.1,h.2]
def locR (K:List Place) (k:Place):Option Nat:=K.findIdx? (λx=>x.At==k.At&&x.Record==k.Record)
def addR (K:List Place) (k:Place):List Place:=match locR K k with | some _=>K | none=>K++[k]
def atR (K:List Place) (k:Place):Int:=match locR K k with | some i=>(i:Int) | none=>(K.length:Int)
theorem so (K:List Place) (k:Place):K.length<=(addR K k).length/\(addR K k).length<=K.length+1:=by
 unfold addR
 cases locR K k <;> simp
theorem sI {K:List Place}{k:Place}{i:Nat}{v:Place}(h:K[i]? =some v):(addR K k)[i]? =some v:=by
 unfold addR
 cases locR K k with
 | some _=>exact h
 | none=>
  have:=(gs.1 h).1
  dsimp only
  rw[List.getElem?_append_left this];exact h
theorem vI {K:List Place}{k x:Place}(h:x∈addR K k):x∈K\/x=k:=by
 unfold addR at h
 cases e:locR K k with
 | some _=>rw[e]at h;exact .inl h
 | none=>rw[e]at h;simpa using h
theorem uB {K:List Place}{k:Place}{i:Nat}(h:locR K k=some i):K[i]? =some k:=by
 unfold locR at h
 obtain⟨h1,h2,h3⟩:=List.findIdx?_eq_some_iff_getElem.1 h
 have:k=K[i]:=(xI h2).symm
 rw[bB h1,← this]
theorem uI {K:List Place}{k:Place}(h:locR K k=none):k∉K:=λhm=>by
 unfold locR at h
 rw[List.findIdx?_eq_none_iff]at h
 have:=h k hm
 simp at this
theorem wF (K:List Place) (k:Place):0<=atR K k/\(addR K k)[(atR K k).toNat]? =some k:=by
 unfold atR addR
 cases h:locR K k with
 | none=>exact⟨by dsimp only;omega,by dsimp only;rw[yt];simp⟩
 | some i=>exact⟨by dsimp only;omega,by dsimp only;rw[yt];exact uB h⟩
theorem tN {K:List Place}(hn:K.Nodup) (k:Place):(addR K k).Nodup:=by
 unfold addR
 cases h:locR K k with
 | none=>
  dsimp only
  refine List.nodup_append.2 ⟨hn,by simp,λa ha b hb e=>?_⟩
  rw[yr]at hb
  exact uI h (hb ▸ e ▸ ha)
 | some i=>exact hn
def dA (ky:Nat->Place) (K:List Place):Nat->List Place×List Int
 | 0=>(K,[])
 | j+1=>(addR (dA ky K j).1 (ky j),(dA ky K j).2++[atR (dA ky K j).1 (ky j)])
structure RowR (ky:Nat->Place) (K:List Place) (j:Nat) (K':List Place) (row:List Int):Prop where
 pre:∀(i:Nat) v,K[i]? =some v->K'[i]? =some v
 len:K.length<=K'.length
 le:K'.length<=K.length+j
 nod:K.Nodup->K'.Nodup
 rl:row.length=j
 at_:∀i:Nat,i<j->∃x,row[i]? =some x/\0<=x/\K'[x.toNat]? =some (ky i)
 mem:∀v∈K',v∈K\/∃i:Nat,i<j/\v=ky i
theorem lE (ky:Nat->Place) (K:List Place):∀j,RowR ky K j (dA ky K j).1 (dA ky K j).2
 | 0=>⟨λ_ _ h=>h,Nat.le_refl _,Nat.le_refl _,id,rfl,λi hi=>absurd hi (Nat.not_lt_zero i),λv h=> .inl h⟩
 | j+1=>by
  have h:=lE ky K j
  unfold dA
  generalize dA ky K j=F at *
  have hl:=so F.1 (ky j)
  obtain⟨a0,a1⟩:=wF F.1 (ky j)
  refine⟨λi v hv=>sI (h.pre i v hv),Nat.le_trans h.len hl.1,?_,λhn=>tN (h.nod hn) _,by simp[h.rl],λi hi=>?_,λv hv=>?_⟩
  · have:=h.le;dsimp only;omega
  · by_cases e:i=j
    · subst e
      refine⟨_,by rw[← h.rl];simp,a0,a1⟩
    · obtain⟨x,x1,x2,x3⟩:=h.at_ i (by omega)
      have hix:=(gs.1 x1).1
      exact⟨x,by rw[List.getElem?_append_left hix];exact x1,x2,sI x3⟩
  · rcases vI hv with hv | hv
    · rcases h.mem v hv with k | ⟨i,hi,e⟩
      · exact .inl k
      · exact .inr ⟨i,by omega,e⟩
    · exact .inr ⟨j,by omega,hv⟩
end Go.Proofs.YtpcjbkgbnoocaaaGreat
set_option linter.unusedVariables false
set_option linter.unusedSimpArgs false
namespace Go.Proofs.YtpcjbkgbnoocaaaGreat
open Go Go.Wk Go.Proofs
def er (ps:List Pair) (v i:Int):Bool:=match idx ps i with | some p=>decide (v∈p.Give) | none=>false
def askI (ps:List Pair) (v i:Int):Bool:=match idx ps i with | some p=>decide (v∈p.Ask) | none=>false
def io (ps:List Pair) (rc:List Int) (v:Int):List Int:=rc.filter (er ps v)++rc.filter λi=> !er ps v i
def fQ (f:Int->Bool) (xs:List Int):Nat->Int
 | 0=> -1
 | j+1=>bif (match xs[j]? with | some x=>f x | none=>false) then(j:Int) else fQ f xs j
def p6 (ps:List Pair) (rc:List Int) (v:Int):Int:=
 bif decide (fQ (askI ps v) rc rc.length<0)&&decide (fQ (er ps v) rc rc.length<0) then 0
 else bif decide (fQ (er ps v) rc rc.length<fQ (askI ps v) rc rc.length) then 2 * fQ (askI ps v) rc rc.length+1
 else 2 * fQ (er ps v) rc rc.length+2
theorem lV (f:Int->Bool) (xs:List Int):∀j:Nat,-1<=fQ f xs j/\fQ f xs j<j
 | 0=>by unfold fQ;omega
 | j+1=>by
  have:=lV f xs j
  unfold fQ
  cases(match xs[j]? with | some x=>f x | none=>false) with
  | true=>rw[cond_true];omega
  | false=>rw[cond_false];omega
theorem uY (ps:List Pair){rc:List Int}(v:Int) (h:rc.length<=4):inR 41 (p6 ps rc v)=true:=by
 have a:=lV (askI ps v) rc rc.length
 have g:=lV (er ps v) rc rc.length
 rw[cE]
 unfold p6
 generalize fQ (askI ps v) rc rc.length=x at *
 generalize fQ (er ps v) rc rc.length=y at *
 by_cases h1:x<0
 · by_cases h2:y<0
   · simp[h1,h2]
   · by_cases h3:y<x
     · omega
     · simp only[h1,h2,h3,decide_true,decide_false,Bool.and_false,cond_false];omega
 · by_cases h3:y<x
   · simp only[h1,h3,decide_true,decide_false,Bool.false_and,cond_false,cond_true];omega
   · simp only[h1,h3,decide_false,Bool.false_and,cond_false];omega
theorem pC (p:Int->Bool):∀xs:List Int,(xs.filter p).length+(xs.filter λx=> !p x).length=xs.length
 | []=>rfl
 | x::xs=>by
  have:=pC p xs
  simp only[List.filter_cons]
  cases p x <;> simp <;> omega
theorem sM (ps:List Pair){rc:List Int}{k:Nat}(v:Int) (hl:rc.length=k) (hr:∀x∈rc,0<=x/\x<(k:Int)):(io ps rc v).length=k/\∀x∈io ps rc v,0<=x/\x<(k:Int):=by
 unfold io
 refine⟨by rw[yq,pC,hl],λx hx=>?_⟩
 rcases yz.1 hx with h | h
 · exact hr x (List.mem_filter.1 h).1
 · exact hr x (List.mem_filter.1 h).1
structure VOk (n k:Nat) (v:Place):Prop where
 a0:0<=v.At
 a1:v.At<(n:Int)
 rl:v.Record.length=k
 rin:∀x∈v.Record,0<=x/\x<(k:Int)
def kyR (ar rc:List Int) (i:Nat):Place:=⟨ar.getD i 0,rc⟩
structure RowP (P:List Place) (ar rc r:List Int):Prop where
 asc:Asc r
 len:r.length=ar.length
 to:∀y∈r,0<=y/\∃u∈ar,P[y.toNat]? =some ⟨u,rc⟩
 has:∀u∈ar,∃y∈r,0<=y/\P[y.toNat]? =some ⟨u,rc⟩
theorem RowP.mono {P P':List Place}{ar rc r:List Int}(h:RowP P ar rc r) (hp:∀(i:Nat) v,P[i]? =some v->P'[i]? =some v):RowP P' ar rc r:=
 ⟨h.asc,h.len,λy hy=>by
  obtain⟨a,u,b,c⟩:=h.to y hy
  exact⟨a,u,b,hp _ _ c⟩,λu hu=>by
  obtain⟨y,a,b,c⟩:=h.has u hu
  exact⟨y,a,b,hp _ _ c⟩⟩
theorem tG {ar rc:List Int}{P:List Place}(hn:ar.Nodup):(dA (kyR ar rc) P ar.length).2.Nodup:=by
 have r:=lE (kyR ar rc) P ar.length
 generalize dA (kyR ar rc) P ar.length=G at *
 have hrl:=r.rl
 refine List.pairwise_iff_getElem.2 λi j hi hj hij e=>?_
 obtain⟨x,x1,_,x3⟩:=r.at_ i (by omega)
 obtain⟨y,y1,_,y3⟩:=r.at_ j (by omega)
 rw[bB hi]at x1
 rw[bB hj]at y1
 have hxy:x=y:=by rw[← Option.some.inj x1,← Option.some.inj y1];exact e
 subst hxy
 rw[x3]at y3
 have:=congrArg Place.At (Option.some.inj y3)
 simp only[kyR,List.getD_eq_getElem?_getD,bB (show i<ar.length by omega),bB (show j<ar.length by omega),Option.getD_some]at this
 exact(List.pairwise_iff_getElem.1 hn) i j (by omega) (by omega) hij this
theorem wM {ar rc:List Int}{P:List Place}{S:List Int}(hS:Asc S) (hl:S.length=ar.length) (hm:∀y,y∈S↔y∈(dA (kyR ar rc) P ar.length).2):RowP (dA (kyR ar rc) P ar.length).1 ar rc S:=by
 have r:=lE (kyR ar rc) P ar.length
 generalize dA (kyR ar rc) P ar.length=G at *
 have hrl:=r.rl
 have hky:∀i,i<ar.length->kyR ar rc i=⟨ar.getD i 0,rc⟩/\ar.getD i 0∈ar:=λi hi=>⟨rfl,by
  rw[List.getD_eq_getElem?_getD,bB hi]
  exact List.getElem_mem hi⟩
 refine⟨hS,hl,λy hy=>?_,λu hu=>?_⟩
 · obtain⟨i,hi⟩:=List.getElem?_of_mem ((hm y).1 hy)
   have hlt:=(gs.1 hi).1
   obtain⟨x,x1,x2,x3⟩:=r.at_ i (by omega)
   rw[hi]at x1
   cases x1
   obtain⟨k1,k2⟩:=hky i (by omega)
   exact⟨x2,_,k2,by rw[x3,k1]⟩
 · obtain⟨i,hi⟩:=List.getElem?_of_mem hu
   have hlt:=(gs.1 hi).1
   obtain⟨x,x1,x2,x3⟩:=r.at_ i hlt
   refine⟨x,(hm x).2 (it x1),x2,?_⟩
   rw[x3]
   unfold kyR
   rw[List.getD_eq_getElem?_getD,hi];rfl
structure RecS (a:Arena) (ps:List Pair) (st:Place) (P:List Place) (i:Nat) (O:List Int) (N:List (List Int)) (Q:List Int):Prop where
 nod:P.Nodup
 zero:P[0]? =some st
 il:i<=P.length
 ol:O.length=i
 nl:N.length=i
 ql:Q.length=i
 inn:∀v∈P,VOk a.Owner.length ps.length v
 row:∀(j:Nat) v,j<i->P[j]? =some v->O[j]? =idx a.Owner v.At/\Q[j]? =some (p6 ps v.Record v.At)/\∃r ar,N[j]? =some r/\idx a.Next v.At=some ar/\RowP P ar (io ps v.Record v.At) r
theorem RecS.init {a:Arena}{ps:List Pair}{st:Place}(h:VOk a.Owner.length ps.length st):RecS a ps st [st] 0 [] [] []:=
 ⟨by simp,rfl,by simp,rfl,rfl,rfl,λv hv=>by rw[yr.1 hv];exact h,λj v hj=>absurd hj (Nat.not_lt_zero j)⟩
theorem RecS.step {a:Arena}{ps:List Pair}{st:Place}{P:List Place}{i:Nat}{O:List Int}{N:List (List Int)}{Q:List Int}(h:RecS a ps st P i O N Q){v:Place}(hv:P[i]? =some v){ar:List Int}(har:idx a.Next v.At=some ar) (hin:∀u∈ar,0<=u/\u<(a.Owner.length:Int)){o:Int}(ho:idx a.Owner v.At=some o){S:List Int}
 (hS:Asc S) (hSl:S.length=ar.length) (hSm:∀y,y∈S↔y∈(dA (kyR ar (io ps v.Record v.At)) P ar.length).2):
 RecS a ps st (dA (kyR ar (io ps v.Record v.At)) P ar.length).1 (i+1) (O++[o]) (N++[S]) (Q++[p6 ps v.Record v.At]):=by
 have hP:=wM hS hSl hSm
 have r:=lE (kyR ar (io ps v.Record v.At)) P ar.length
 have hvo:=h.inn v (it hv)
 have hn:=sM ps v.At hvo.rl hvo.rin
 have hky:∀x,x<ar.length->VOk a.Owner.length ps.length (kyR ar (io ps v.Record v.At) x):=λx hx=>by
  have hm:ar.getD x 0∈ar:=by
   rw[List.getD_eq_getElem?_getD,bB hx]
   exact List.getElem_mem hx
  obtain⟨u0,u1⟩:=hin _ hm
  exact⟨u0,u1,hn.1,hn.2⟩
 generalize dA (kyR ar (io ps v.Record v.At)) P ar.length=G at *
 have hiP:=(gs.1 hv).1
 have h1:=h.ol
 have h2:=h.nl
 have h3:=h.ql
 have hlen:=r.len
 refine⟨r.nod h.nod,r.pre 0 _ h.zero,by omega,by simp[h1],by simp[h2],by simp[h3],λu hu=>?_,λj u hj hu=>?_⟩
 · rcases r.mem u hu with hm | ⟨x,hx,e⟩
   · exact h.inn u hm
   · rw[e];exact hky x hx
 · by_cases e:j=i
   · subst e
     have huv:u=v:=by
      have:=r.pre j v hv
      rw[hu]at this
      exact Option.some.inj this
     subst huv
     refine⟨by rw[← h1,ho];simp,by rw[← h3];simp,S,ar,by rw[← h2];simp,har,hP⟩
   · have hj':j<i:=by omega
     have hjP:P[j]? =some (P[j]'(by omega)):=bB (by omega)
     have huv:u=P[j]'(by omega):=by
      have:=r.pre j _ hjP
      rw[hu]at this
      exact Option.some.inj this
     rw[← huv]at hjP
     obtain⟨b1,b2,rr,ar',b3,b4,b5⟩:=h.row j u hj' hjP
     exact⟨by rw[List.getElem?_append_left (by omega)];exact b1,by rw[List.getElem?_append_left (by omega)];exact b2,rr,ar',by rw[List.getElem?_append_left (by omega)];exact b3,b4,b5.mono r.pre⟩
structure RecG (a:Arena) (ps:List Pair) (st:Place) (P:List Place) (g:Parity):Prop where
 game:RecS a ps st P P.length g.Arena.Owner g.Arena.Next g.Prio
 le:P.length<=256
theorem RecG.ok {a:Arena}{ps:List Pair}{st:Place}{P:List Place}{g:Parity}(h:RecG a ps st P g) (ha:dw a=true) (hO:∀o∈a.Owner,inR 2 o=true) (hN:∀(i:Nat) row,a.Next[i]? =some row->1<=row.length/\row.length<=16) (hk:ps.length<=4):cF g=true:=by
 have hr:=h.game
 have h0:=(gs.1 hr.zero).1
 have h1:=hr.ol
 have h2:=hr.nl
 have h3:=hr.ql
 have hle:=h.le
 have hv:∀j:Nat,j<P.length->∃v,P[j]? =some v:=λj hj=>⟨_,bB hj⟩
 refine uK (by omega) (by omega) (by omega) (by omega) (λrow hrow=>?_) (λo ho=>?_) λx hx=>?_
 · obtain⟨j,hj⟩:=List.getElem?_of_mem hrow
   have hlt:=(gs.1 hj).1
   obtain⟨v,hjv⟩:=hv j (by omega)
   obtain⟨_,_,r,ar,b3,b4,b5⟩:=hr.row j v (by omega) hjv
   rw[hj]at b3
   cases b3
   have v0:=(iJ b4).1
   rw[cX v0]at b4
   obtain⟨l1,l2⟩:=hN _ _ b4
   have hl:=b5.len
   refine⟨by omega,by omega,go.2 ⟨λy hy=>?_,b5.asc⟩⟩
   obtain⟨y0,u,_,hu⟩:=b5.to y hy
   have:=(gs.1 hu).1
   omega
 · obtain⟨j,hj⟩:=List.getElem?_of_mem ho
   have hlt:=(gs.1 hj).1
   obtain⟨v,hjv⟩:=hv j (by omega)
   obtain⟨b1,_⟩:=hr.row j v (by omega) hjv
   rw[hj]at b1
   have v0:=(iJ b1.symm).1
   rw[cX v0]at b1
   exact hO o (it b1.symm)
 · obtain⟨j,hj⟩:=List.getElem?_of_mem hx
   have hlt:=(gs.1 hj).1
   obtain⟨v,hjv⟩:=hv j (by omega)
   obtain⟨_,b2,_⟩:=hr.row j v (by omega) hjv
   rw[hj]at b2
   cases b2
   exact uY ps v.At (by have:=(hr.inn v (it hjv)).rl;omega)
def firstR (k:Nat):List Int:=(List.range k).map Int.ofNat
end Go.Proofs.YtpcjbkgbnoocaaaGreat
set_option linter.unusedVariables false
set_option linter.unusedSimpArgs false
namespace Go.Proofs.YtpcjbkgbnoocaaaGreat
open Go Go.Wk Go.Proofs
theorem uc (row:List Int) (v:Int):jJ row v=some (decide (v∈row)):=by
 unfold jJ
 rw[c8 (f:=jc row v) (r:=true) (xs:=row) (λx=> !(x==v)) rfl (λi x hx=>by
  unfold jc
  rw[bC,hx,bz]
  cases x==v <;> rfl)]
 by_cases h:v∈row
 · rw[if_neg,decide_eq_true h];rfl
   rw[List.all_eq_true]
   intro hall
   have:=hall v h
   simp at this
 · rw[if_pos,decide_eq_false h];rfl
   rw[List.all_eq_true]
   intro x hx
   simp only[Bool.not_eq_true',beq_eq_false_iff_ne,ne_eq]
   exact λe=>h (e ▸ hx)
theorem xj (p0 p1:List Int):fV p0 p1=some (decide (p0=p1)):=by
 unfold fV
 by_cases h:p0.length=p1.length
 · rw[show((p0.length:Int) !=(p1.length:Int))=false from by rw[h];simp,cond_false]
   rw[ub (f:=ef p0 p1) (r:=false) (λx y=>decide (x=y)) h (λi x y hx hy=>by
    unfold ef
    rw[bC,bC,hx,hy,bz,bz]
    by_cases e:x=y
    · subst e;simp
    · have e':(x==y)=false:=by simp[e]
      simp[bne,e',e])]
   rw[np h]
   cases decide (p0=p1) <;> rfl
 · rw[show((p0.length:Int) !=(p1.length:Int))=true from by simp only[bne_iff_ne,ne_eq];omega,cond_true,decide_eq_false (λe=>h (by rw[e]))]
def nJ (P:List Place) (k:Place):Int:=match locR P k with | some i=>(i:Int) | none=> -1
theorem xb (P:List Place) (u:Int) (rc:List Int):kD P u rc=some (nJ P ⟨u,rc⟩):=by
 unfold kD
 rw[dC (f:=ia P u rc) (λx=>x.At==u&&x.Record==rc) (λi=>(i:Int)) (xs:=P) (λi x hx=>by
  unfold ia
  rw[bC,hx,bz]
  by_cases h1:x.At=u
  · rw[show(x.At==u)=true from by simpa using h1,cond_true,bz,xj]
    by_cases h2:x.Record=rc
    · rw[decide_eq_true h2,show(x.Record==rc)=true from by simpa using h2];rfl
    · rw[decide_eq_false h2,show(x.Record==rc)=false from by simpa using h2];rfl
  · rw[show(x.At==u)=false from by simpa using h1];rfl)]
 unfold nJ locR
 cases P.findIdx? (λx=>x.At==u&&x.Record==rc) <;> rfl
section
variable {ps:List Pair}{rc:List Int}(hr:∀x∈rc,0<=x/\x<(ps.length:Int)) (hl:rc.length<=1000)
include hr hl
theorem xK (v:Int):iE ps rc v=some (io ps rc v):=by
 unfold iE
 obtain⟨s,h1,h2⟩:=bL (f:=eE ps rc v) (λj (s:List Int×List Int)=>s=((rc.take j).filter (er ps v),(rc.take j).filter λi=> !er ps v i)) rc.length (s:=([],[])) rfl (λj s hj hs=>by
  subst hs
  have hx:rc[j]? =some rc[j]:=bB hj
  generalize rc[j]=x at hx
  obtain⟨x0,x1⟩:=hr x (it hx)
  obtain⟨p,hp,_⟩:=cJ (xs:=ps) x0 x1
  have hg:er ps v x=decide (v∈p.Give):=by unfold er;rw[hp]
  have l1:((rc.take j).filter (er ps v)).length<=1000:=Nat.le_trans (List.length_filter_le ..) (by rw[yv];omega)
  have l2:((rc.take j).filter λi=> !er ps v i).length<=1000:=Nat.le_trans (List.length_filter_le ..) (by rw[yv];omega)
  unfold eE
  rw[bC,hx,bz,hp,bz,uc,← hg,bz,yA,hx]
  simp only[Option.toList_some,List.filter_append]
  cases hc:er ps v x with
  | true=>
   simp only[cond_true,bz]
   rw[app1 (by omega) rfl]
   exact⟨_,rfl,by simp[hc]⟩
  | false=>
   simp only[cond_false,bz]
   rw[app1 (by omega) rfl]
   exact⟨_,rfl,by simp[hc]⟩)
 rw[h1,h2,bz,bE,List.take_length]
 have l1:(rc.filter (er ps v)).length<=1000:=Nat.le_trans (List.length_filter_le ..) hl
 have l2:(rc.filter λi=> !er ps v i).length<=1000:=Nat.le_trans (List.length_filter_le ..) hl
 dsimp only
 rw[appL (by omega) rfl];rfl
theorem xr (v:Int):iA ps rc v=some (p6 ps rc v):=by
 unfold iA
 obtain⟨s,h1,h2⟩:=bL (f:=eu ps rc v) (λj (s:Int×Int)=>s=(fQ (askI ps v) rc j,fQ (er ps v) rc j)) rc.length (s:=(-1,-1)) rfl (λj s hj hs=>by
  subst hs
  have hx:rc[j]? =some rc[j]:=bB hj
  generalize rc[j]=x at hx
  obtain⟨x0,x1⟩:=hr x (it hx)
  obtain⟨p,hp,_⟩:=cJ (xs:=ps) x0 x1
  have hg:er ps v x=decide (v∈p.Give):=by unfold er;rw[hp]
  have ha:askI ps v x=decide (v∈p.Ask):=by unfold askI;rw[hp]
  have e1:fQ (askI ps v) rc (j+1)=bif askI ps v x then(j:Int) else fQ (askI ps v) rc j:=by
   show(bif (match rc[j]? with | some x=>askI ps v x | none=>false) then(j:Int) else _)=_
   rw[hx]
  have e2:fQ (er ps v) rc (j+1)=bif er ps v x then(j:Int) else fQ (er ps v) rc j:=by
   show(bif (match rc[j]? with | some x=>er ps v x | none=>false) then(j:Int) else _)=_
   rw[hx]
  refine⟨_,?_,rfl⟩
  unfold eu
  simp only[bC,hx,bz,hp,uc,← hg,← ha]
  rw[e1,e2]
  cases askI ps v x <;> cases er ps v x <;> rfl)
 rw[h1,h2,bz,bE]
 have a:=lV (askI ps v) rc rc.length
 have g:=lV (er ps v) rc rc.length
 unfold p6
 dsimp only
 generalize fQ (askI ps v) rc rc.length=x at *
 generalize fQ (er ps v) rc rc.length=y at *
 rw[wr' (z:=2 * x) (by omega) (by omega),wr' (z:=2 * x+1) (by omega) (by omega),wr' (z:=2 * y) (by omega) (by omega),wr' (z:=2 * y+2) (by omega) (by omega)]
 cases decide (x<0) <;> cases decide (y<0) <;> cases decide (y<x) <;> rfl
end
theorem vN {xs:List Int}(hn:xs.Nodup) (hl:xs.length<=1000):∃S,i8 xs=some S/\Asc S/\S.length=xs.length/\∀z,z∈S↔z∈xs:=by
 unfold i8
 obtain⟨s,h1,h2,h3,h4⟩:=bL (f:=eT xs) (λj (s:List Int)=>Asc s/\s.length=j/\∀z,z∈s↔z∈xs.take j) xs.length (s:=[]) ⟨List.Pairwise.nil,rfl,λz=>by simp⟩ (λj s hj ⟨a1,a2,a3⟩=>by
  have hx:xs[j]? =some xs[j]:=bB hj
  have hxj:=hx
  generalize hxe:xs[j]=x at hx
  have hnot:x∉s:=λhm=>by
   obtain⟨i,hi⟩:=List.getElem?_of_mem ((a3 x).1 hm)
   have hil:=(gs.1 hi).1
   rw[yv]at hil
   rw[List.getElem?_take,if_pos (by omega),bB (by omega)]at hi
   have:=(List.pairwise_iff_getElem.1 hn) i j (by omega) hj (by omega)
   exact this ((Option.some.inj hi).trans hxe.symm)
  obtain⟨o,w1,w2⟩:=bY (f:=fc xs (j:Int) s) (λq (k:Int)=>∃m:Nat,k=(m:Int)/\m+q=s.length/\∀(i:Nat) y,m<=i->s[i]? =some y->x<y) (λ_=>False) (λk=>∃m:Nat,k=(m:Int)/\m<=s.length/\(∀(i:Nat) y,m<=i->s[i]? =some y->x<y)/\∀(i:Nat) y,i<m->s[i]? =some y->y<x) s.length (λq k ⟨m,e,hm,hi⟩=>by
   subst e
   unfold fc
   by_cases h0:0<m
   · have hy:s[m-1]? =some (s[m-1]'(by omega)):=bB (by omega)
     generalize s[m-1]'(by omega)=y at hy
     have hw:IntKind.i64.wrap ((m:Int)-1)=((m-1:Nat):Int):=by rw[wr' (by omega) (by omega)];omega
     rw[decide_eq_true (show(0:Int)<(m:Int) by omega),cond_true,hw,bC,hy,bz,bC,hx,bz,bz]
     by_cases hlt:x<y
     · rw[decide_eq_true hlt,cond_true]
       refine⟨_,rfl,by omega,m-1,rfl,by omega,λi z hi' hz=>?_⟩
       by_cases e:i=m-1
       · subst e
         rw[hy]at hz
         cases hz
         exact hlt
       · exact hi i z (by omega) hz
     · rw[decide_eq_false hlt,cond_false]
       refine⟨_,rfl,m,rfl,by omega,hi,λi z hi' hz=>?_⟩
       have hyx:y<x:=by
        have:y≠x:=λe=>hnot (e ▸ it hy)
        omega
       by_cases e:i=m-1
       · subst e
         rw[hy]at hz
         cases hz
         exact hyx
       · have:=rt a1 hz hy (by omega)
         omega
   · have hm0:m=0:=by omega
     subst hm0
     rw[decide_eq_false (show ¬(0:Int)<((0:Nat):Int) by omega),cond_false,bz,cond_false]
     exact⟨_,rfl,0,rfl,by omega,hi,λi z hi' _=>absurd hi' (Nat.not_lt_zero i)⟩) (2 ^ 64) 0 (s.length:Int) (by omega) ⟨s.length,rfl,by omega,λi y hi hy=>by
     have:=(gs.1 hy).1
     omega⟩ (by omega)
  match o,w2 with
  | .inr k,⟨m,e,m1,m2,m3⟩=>
   subst e
   unfold eT
   have s1:subS s 0 (m:Int)=some (s.take m):=by
    unfold subS
    rw[if_pos ⟨by omega,by omega,by omega⟩]
    simp
   have s2:subS s (m:Int) (s.length:Int)=some (s.drop m):=by
    unfold subS
    rw[if_pos ⟨by omega,by omega,by omega⟩]
    simp
   have t1:(s.take m).length<=1000:=by rw[yv];omega
   have t2:(s.drop m).length<=1000:=by rw[List.length_drop];omega
   rw[w1,bz,bE,s1,bz,appL (by simp;omega) rfl,bz,bC,hx,bz,List.nil_append,app1 (by omega) rfl,bz,s2,bz,appL (by rw[yq];simp only[yu,yw];omega) rfl,bz]
   have hcut:(s.take m++[x])++s.drop m=ins x s:=by
    rw[List.append_assoc]
    exact uy a1 hnot m1 m3 (λz hz=>m2 m z (Nat.le_refl _) hz)
   refine⟨_,rfl,?_,?_,λz=>?_⟩
   · rw[hcut];exact pq a1
   · rw[hcut,tz hnot a1,a2]
   · rw[hcut,po hnot,a3,yA,hx]
     simp only[Option.toList_some,yz,yr]
     constructor
     · rintro(h | h)
       · exact .inr h
       · exact .inl h
     · rintro(h | h)
       · exact .inr h
       · exact .inl h)
 rw[h1,bz,bE]
 exact⟨s,rfl,h2,h3,λz=>by rw[h4,List.take_length]⟩
theorem p7 {P:List Place}{k:Place}:(nJ P k<0->addR P k=P++[k]/\atR P k=(P.length:Int))/\(¬nJ P k<0->addR P k=P/\atR P k=nJ P k):=by
 unfold nJ addR atR
 cases locR P k with
 | none=>exact⟨λ_=>⟨rfl,rfl⟩,λh=>absurd (by show(-1:Int)<0;omega) h⟩
 | some i=>exact⟨λh=>absurd h (by show ¬((i:Int)<0);omega),λ_=>⟨rfl,rfl⟩⟩
theorem uJ (ky:Nat->Place) (K:List Place):∀{i j:Nat},i<=j->(dA ky K i).1.length<=(dA ky K j).1.length:=by
 intro i j h
 induction h with
 | refl=>exact Nat.le_refl _
 | step h ih=>
  refine Nat.le_trans ih ?_
  show _<=(addR _ _).length
  exact(so _ _).1
end Go.Proofs.YtpcjbkgbnoocaaaGreat
set_option linter.unusedVariables false
set_option linter.unusedSimpArgs false
namespace Go.Proofs.YtpcjbkgbnoocaaaGreat
open Go Go.Wk Go.Proofs
theorem conR (l:List Int) (v:Int):bJ l v=some (decide (v∈l)):=by
 rw[cR]
 congr 1
 rw[yx]
 simp
theorem wG (ps:List Pair) (rc:List Int) (v:Int):lm ps rc v=iE ps rc v:=by
 have h:jq ps rc v=eE ps rc v:=by
  funext j s
  unfold jq eE
  cases idx rc j with
  | none=>rfl
  | some x=>
   simp only[bz]
   cases idx ps x with
   | none=>rfl
   | some p=>simp only[bz,uc,conR]
 unfold lm iE
 rw[h]
theorem wy (ps:List Pair) (rc:List Int) (v:Int):la ps rc v=iA ps rc v:=by
 have h:js ps rc v=eu ps rc v:=by
  funext j s
  unfold js eu
  cases idx rc j with
  | none=>rfl
  | some x=>
   simp only[bz]
   cases idx ps x with
   | none=>rfl
   | some p=>simp only[bz,uc,conR]
 unfold la iA
 rw[h]
theorem tP (P:List Place) (u:Int) (rc:List Int):oG P u rc=some (nJ P ⟨u,rc⟩):=by
 unfold oG
 rw[dB (λx=>x.At==u&&x.Record==rc) (λx _=>by
  unfold my
  by_cases h1:x.At=u
  · rw[show(x.At==u)=true from by simpa using h1,cond_true,eh]
    by_cases h2:x.Record=rc
    · rw[decide_eq_true h2,show(x.Record==rc)=true from by simpa using h2];rfl
    · rw[decide_eq_false h2,show(x.Record==rc)=false from by simpa using h2];rfl
  · rw[show(x.At==u)=false from by simpa using h1];rfl)]
 rfl
def noRec:Parity×List Place×Bool:=(⟨⟨[],[]⟩,[]⟩,[],false)
section
variable {a:Arena}{v:Place}{ar rc:List Int}{P:List Place}(har:idx a.Next v.At=some ar) (hal:ar.length<=16) (hrl:rc.length<=4)
include har hal hrl
theorem xG (hP:P.length<=256):∃o,bI (eO a v rc) (2 ^ 64) (P,[],0)=some o/\(match o with
 | .inl r=>r=noRec/\256<(dA (kyR ar rc) P ar.length).1.length
 | .inr s=>s.1=(dA (kyR ar rc) P ar.length).1/\s.2.1=(dA (kyR ar rc) P ar.length).2/\(dA (kyR ar rc) P ar.length).1.length<=256):=by
 obtain⟨o,w1,w2⟩:=bY (f:=eO a v rc) (λj (s:List Place×List Int×Int)=>s=((dA (kyR ar rc) P j).1,(dA (kyR ar rc) P j).2,(j:Int))/\j<=ar.length/\(dA (kyR ar rc) P j).1.length<=256) (λr=>r=noRec/\256<(dA (kyR ar rc) P ar.length).1.length)
  (λs=>s.1=(dA (kyR ar rc) P ar.length).1/\s.2.1=(dA (kyR ar rc) P ar.length).2/\(dA (kyR ar rc) P ar.length).1.length<=256) ar.length (λj s ⟨e,hj,hle⟩=>by
  subst e
  have rk:=lE (kyR ar rc) P j
  have hrl2:=rk.rl
  unfold eO
  dsimp only
  rw[har,bz]
  by_cases hlt:j<ar.length
  · have hx:ar[j]? =some ar[j]:=bB hlt
    have hky:kyR ar rc j=⟨ar[j],rc⟩:=by unfold kyR;rw[List.getD_eq_getElem?_getD,hx];rfl
    generalize ar[j]=u at hx hky
    obtain⟨q1,q2⟩:=p7 (P:=(dA (kyR ar rc) P j).1) (k:=kyR ar rc j)
    have hS:dA (kyR ar rc) P (j+1)=(addR (dA (kyR ar rc) P j).1 (kyR ar rc j),(dA (kyR ar rc) P j).2++[atR (dA (kyR ar rc) P j).1 (kyR ar rc j)]):=rfl
    have hm:=uJ (kyR ar rc) P (show j+1<=ar.length by omega)
    rw[decide_eq_true (show(j:Int)<(ar.length:Int) by omega),cond_true,bz,bC,hx,bz,xb,← hky,bz]
    by_cases hc:nJ (dA (kyR ar rc) P j).1 (kyR ar rc j)<0
    · obtain⟨e1,e2⟩:=q1 hc
      rw[hS,e1]at hm
      simp only[yq,yu,yw]at hm
      by_cases hbig:(256:Int)<=((dA (kyR ar rc) P j).1.length:Int)
      · rw[decide_eq_true hc,cond_true,decide_eq_true hbig,cond_true]
        exact⟨_,rfl,rfl,by omega⟩
      · rw[decide_eq_true hc,cond_true,decide_eq_false hbig,cond_false,appL (by simp;omega) rfl,bz,List.nil_append,app1 (by omega) rfl,bz,bz,bE]
        dsimp only
        rw[app1 (by omega) rfl,bz,wr' (by omega) (by omega)]
        refine⟨_,rfl,by omega,?_,by omega,?_⟩
        · rw[hS,e1,e2,← hky];rfl
        · rw[hS,e1,yq];simp only[yu,yw];omega
    · obtain⟨e1,e2⟩:=q2 hc
      rw[decide_eq_false hc,cond_false,bz,bE]
      dsimp only
      rw[app1 (by omega) rfl,bz,wr' (by omega) (by omega)]
      refine⟨_,rfl,by omega,?_,by omega,?_⟩
      · rw[hS,e1,e2];rfl
      · rw[hS,e1];exact hle
  · have:j=ar.length:=by omega
    subst this
    rw[decide_eq_false (show ¬((ar.length:Nat):Int)<(ar.length:Int) by omega),cond_false]
    exact⟨_,rfl,rfl,rfl,hle⟩) (2 ^ 64) 0 (P,[],0) (by omega) ⟨rfl,Nat.zero_le _,hP⟩ (by omega)
 exact⟨o,w1,by
  match o,w2 with
  | .inl r,h=>exact h
  | .inr s,h=>exact h⟩
omit har in
theorem xl (hP:P.length<=1000):cntM (bT rc ar) ar.length 0 (P,[])=some (.inr (dA (kyR ar rc) P ar.length)):=by
 obtain⟨s,h1,h2⟩:=bL (f:=bT rc ar) (λj s=>s=dA (kyR ar rc) P j) ar.length (s:=(P,[])) rfl (λj s hj e=>by
  subst e
  have rk:=lE (kyR ar rc) P j
  have hrl2:=rk.rl
  have hle:=rk.le
  have hx:ar[j]? =some ar[j]:=bB hj
  have hky:kyR ar rc j=⟨ar[j],rc⟩:=by unfold kyR;rw[List.getD_eq_getElem?_getD,hx];rfl
  generalize ar[j]=u at hx hky
  obtain⟨q1,q2⟩:=p7 (P:=(dA (kyR ar rc) P j).1) (k:=kyR ar rc j)
  refine⟨_,?_,rfl⟩
  unfold bT
  rw[bC,hx,bz,tP,← hky,bz]
  show _=some (Sum.inr (Sum.inr (addR (dA (kyR ar rc) P j).1 (kyR ar rc j),(dA (kyR ar rc) P j).2++[atR (dA (kyR ar rc) P j).1 (kyR ar rc j)])))
  by_cases hc:nJ (dA (kyR ar rc) P j).1 (kyR ar rc j)<0
  · obtain⟨e1,e2⟩:=q1 hc
    rw[decide_eq_true hc,cond_true,appL (by simp;omega) rfl,bz,List.nil_append,app1 (by omega) rfl,bz,bz]
    dsimp only
    rw[app1 (by omega) rfl,bz,e1,e2,← hky]
  · obtain⟨e1,e2⟩:=q2 hc
    rw[decide_eq_false hc,cond_false,bz]
    dsimp only
    rw[app1 (by omega) rfl,bz,e1,e2])
 rw[h1,h2]
end
end Go.Proofs.YtpcjbkgbnoocaaaGreat
set_option linter.unusedVariables false
set_option linter.unusedSimpArgs false
namespace Go.Proofs.YtpcjbkgbnoocaaaGreat
open Go Go.Wk Go.Proofs
theorem rU {a:Arena}(ha:dw a=true):cF ⟨a,hV a.Owner.length 0⟩=true:=by
 unfold cF
 dsimp only
 rw[ha,List.length_replicate,beq_self_eq_true,Bool.true_and,Bool.true_and,List.all_eq_true]
 intro x hx
 rw[(List.mem_replicate.1 hx).2];rfl
theorem qN {a:Arena}(ha:dw a=true):1<=a.Owner.length/\a.Owner.length<=256/\(∀(i:Nat) row,a.Next[i]? =some row->1<=row.length/\row.length<=16)/\(∀o∈a.Owner,inR 2 o=true) /\
 ∀v:Int,0<=v->v<(a.Owner.length:Int)->∃ar o,idx a.Next v=some ar/\idx a.Owner v=some o/\1<=ar.length/\ar.length<=16/\Asc ar/\∀u∈ar,0<=u/\u<(a.Owner.length:Int):=by
 have hp:=rU ha
 obtain⟨h1,h2,h3,_,h5⟩:=dN hp
 dsimp only at h1 h2 h3 h5
 refine⟨h1,h2,λi row hr=>⟨(h5 i row hr).1,(h5 i row hr).2.1⟩,(pT hp).1,λv v0 v1=>?_⟩
 obtain⟨ar,har,_⟩:=cJ (xs:=a.Next) v0 (by omega)
 obtain⟨o,ho,_⟩:=cJ (xs:=a.Owner) v0 v1
 have har':=har
 rw[cX v0]at har'
 obtain⟨r1,r2,r3⟩:=h5 _ ar har'
 obtain⟨r4,r5⟩:=go.1 r3
 exact⟨ar,o,har,ho,r1,r2,r5,r4⟩
section
variable {a:Arena}{ps:List Pair}{st:Place}(ha:dw a=true) (hk:ps.length<=4)
include ha hk
theorem vx (hv:VOk a.Owner.length ps.length st):(bI (dO a ps) (2 ^ 64) ([st],0,[],[],[])=some (.inl noRec)/\bI (bO a ps) (2 ^ 64) ([st],0,[],[],[])=some (.inl noRec)) \/
 ∃s:List Place×Int×List Int×List (List Int)×List Int,bI (dO a ps) (2 ^ 64) ([st],0,[],[],[])=some (.inr s)/\bI (bO a ps) (2 ^ 64) ([st],0,[],[],[])=some (.inr s)/\RecG a ps st s.1 ⟨⟨s.2.2.1,s.2.2.2.1⟩,s.2.2.2.2⟩:=by
 obtain⟨_,_,_,_,hA⟩:=qN ha
 obtain⟨o,t,w1,w2,w3⟩:=mV (f:=dO a ps) (g:=bO a ps) (λs t=>s=t/\∃i:Nat,s.2.1=(i:Int)/\RecS a ps st s.1 i s.2.2.1 s.2.2.2.1 s.2.2.2.2/\s.1.length<=256) (λs=>300-s.2.1.toNat) (λr r'=>r=noRec/\r'=noRec)
  (λs t=>s=t/\RecG a ps st s.1 ⟨⟨s.2.2.1,s.2.2.2.1⟩,s.2.2.2.2⟩) (λs t ⟨e,i,hi,hR,hl⟩=>by
  subst e
  obtain⟨P,z,O,N,Q⟩:=s
  dsimp only at hi hR hl
  subst hi
  unfold dO bO
  dsimp only
  by_cases hlt:i<P.length
  · have hvi:P[i]? =some P[i]:=bB hlt
    generalize P[i]=v at hvi
    have hvo:=hR.inn v (it hvi)
    obtain⟨ar,ow,har,how,l1,l2,hasc,hin⟩:=hA v.At hvo.a0 hvo.a1
    have hrc:=hvo.rl
    have hn17:=xK (ps:=ps) (rc:=v.Record) hvo.rin (by omega) v.At
    have hp17:=xr (ps:=ps) (rc:=v.Record) hvo.rin (by omega) v.At
    have hnx:=sM ps v.At hvo.rl hvo.rin
    obtain⟨o1,u1,u2⟩:=xG (a:=a) (v:=v) (ar:=ar) (rc:=io ps v.Record v.At) (P:=P) har l2 (by omega) hl
    have hi:=xl (ar:=ar) (rc:=io ps v.Record v.At) (P:=P) l2 (by omega) (by omega)
    have hnd:=tG (ar:=ar) (rc:=io ps v.Record v.At) (P:=P) (iD hasc)
    have rk:=lE (kyR ar (io ps v.Record v.At)) P ar.length
    have hrl:=rk.rl
    obtain⟨S,t1,t2,t3,t4⟩:=vN hnd (by omega)
    have hsort:cU (dA (kyR ar (io ps v.Record v.At)) P ar.length).2=some S:=by
     unfold cU
     rw[if_pos ⟨by omega,by omega⟩]
     exact congrArg some (rb (vV hnd) t2 λz=>by rw[List.mem_mergeSort,t4])
    have hstep:=hR.step hvi har hin how t2 (by rw[t3,hrl]) t4
    have e1:=hR.ol
    have e2:=hR.nl
    have e3:=hR.ql
    have hr1:lK v ps=some (io ps v.Record v.At):=by
     unfold lK
     rw[wG,hn17];rfl
    have hr2:kV v ps=some (p6 ps v.Record v.At):=by
     unfold kV
     rw[wy,hp17];rfl
    rw[decide_eq_true (show(i:Int)<(P.length:Int) by omega),cond_true,cond_true,bC,hvi,bz,bz,hn17,bz,u1,bz,hr1,bz,har,bz,hi,bz,bE]
    match o1,u2 with
    | .inl r,⟨r1,r2⟩=>
     subst r1
     rw[decide_eq_true (show(256:Int)<((dA (kyR ar (io ps v.Record v.At)) P ar.length).1.length:Int) by omega),cond_true]
     exact⟨_,_,rfl,rfl,rfl,rfl⟩
    | .inr s,⟨r1,r2,r3⟩=>
     rw[bE,r1,r2,t1,how,bz,decide_eq_false (show ¬(256:Int)<((dA (kyR ar (io ps v.Record v.At)) P ar.length).1.length:Int) by omega),cond_false,hsort,hr2]
     simp only[bz]
     unfold og
     dsimp only
     rw[app1 (xs:=O) (by omega) rfl,app1 (xs:=N) (by omega) rfl,hp17]
     simp only[bz]
     rw[app1 (xs:=Q) (by omega) rfl,wr' (by omega) (by omega)]
     refine⟨_,_,rfl,rfl,⟨rfl,i+1,by dsimp only;omega,hstep,r3⟩,?_⟩
     dsimp only
     omega
  · rw[decide_eq_false (show ¬(i:Int)<(P.length:Int) by omega),cond_false,cond_false]
    have hil:=hR.il
    have:i=P.length:=by omega
    subst this
    exact⟨_,_,rfl,rfl,rfl,hR,hl⟩) (2 ^ 64) (2 ^ 64) ([st],0,[],[],[]) ([st],0,[],[],[]) (by dsimp only;omega) (by dsimp only;omega) ⟨rfl,0,rfl,RecS.init hv,by simp⟩
 match o,t,w3 with
 | .inl r,.inl r',w3=>
  rw[w3.1]at w1
  rw[w3.2]at w2
  exact .inl ⟨w1,w2⟩
 | .inr s,.inr t,⟨e,hG⟩=>
  subst e
  exact .inr ⟨s,w1,w2,hG⟩
end
theorem wJ (k:Nat):cntM dM k 0 []=some (.inr (firstR k))\/1000<k:=by
 by_cases hk:1000<k
 · exact .inr hk
 · obtain⟨s,h1,h2⟩:=bL (f:=dM) (λj s=>s=firstR j) k (s:=[]) rfl (λj s hj e=>by
    subst e
    unfold dM
    rw[app1 (by unfold firstR;rw[yC,List.length_range];omega) rfl]
    exact⟨_,rfl,by unfold firstR;rw[List.range_succ,List.map_append];rfl⟩)
   exact .inl (by rw[h1,h2])
theorem qw {a:Arena}{ps:List Pair}{st:Int}(ha:dw a=true) (hp:pairsOk ps (a.Owner.length:Int)=true) (hb:∀x∈ps,x.Ask.length<=1000000000/\x.Give.length<=1000000000) (h0:0<=st) (h1:st<(a.Owner.length:Int)):
 (dp a ps st=some noRec/\gh a ps st=some noRec)\/∃P g,RecG a ps ⟨st,firstR ps.length⟩ P g/\cF g=true/\dp a ps st=some (g,P,true)/\gh a ps st=some (g,P,true):=by
 obtain⟨n1,n2,n3,n4,_⟩:=qN ha
 have hk:ps.length<=4:=by
  unfold pairsOk at hp
  rw[yo,decide_eq_true_eq]at hp
  omega
 have hf:cntM dM ps.length 0 []=some (.inr (firstR ps.length)):=(wJ ps.length).resolve_right (by omega)
 have hf':cntM na ps.length 0 []=some (.inr (firstR ps.length)):=hf
 have hv:VOk a.Owner.length ps.length ⟨st,firstR ps.length⟩:=⟨h0,h1,by unfold firstR;rw[yC,List.length_range],λx hx=>by
  unfold firstR at hx
  obtain⟨i,hi,e⟩:=List.mem_map.1 hx
  have:=List.mem_range.1 hi
  have e:(i:Int)=x:=e
  omega⟩
 unfold dp gh cY
 rw[lI,ha,bz,yp,cond_false,mY (by omega) (by omega) hb,hp,bz,bz,yp,cond_false,cz,wr' (by omega) (by omega),decide_eq_true h0,decide_eq_true (show st<=(a.Owner.length:Int)-1 by omega),Bool.and_self,bz,bz,yp,cond_false,hf,hf',bz,bz,bE,bE]
 rcases vx ha hk hv with ⟨w1,w2⟩ | ⟨s,w1,w2,hG⟩
 · left
   rw[w1,w2]
   exact⟨rfl,rfl⟩
 · right
   rw[w1,w2]
   exact⟨s.1,_,hG,hG.ok ha n4 n3 hk,rfl,rfl⟩
end Go.Proofs.YtpcjbkgbnoocaaaGreat
set_option linter.unusedVariables false
set_option linter.unusedSimpArgs false
namespace Go.Proofs.YtpcjbkgbnoocaaaGreat
open Go Go.Wk Go.Proofs
theorem nP {zs:List Int}{j:Nat}(h:j<zs.length):zs.toArray[j]! =zs[j]:=by
 rw[getElem!_pos _ j (by simpa using h)]
 simp
theorem nM {zs:List Int}(h:zs.Pairwise (·<=·)):∀m:Nat,m<=zs.length->Asc (Lib.compactUpTo zs.toArray m)/\∀z,z∈Lib.compactUpTo zs.toArray m↔∃j:Nat,j<m/\zs[j]? =some z
 | 0,_=>⟨by simp[Lib.compactUpTo,Asc],λz=>by simp[Lib.compactUpTo]⟩
 | m+1,hm=>by
  obtain⟨a1,a2⟩:=nM h m (by omega)
  have hmono:∀(i j:Nat) (hi:i<zs.length) (hj:j<zs.length),i<=j->zs[i]<=zs[j]:=λi j hi hj hij=>by
   rcases Nat.lt_or_ge i j with c | c
   · exact(List.pairwise_iff_getElem.1 h) i j hi hj c
   · have:i=j:=by omega
     subst this
     exact Int.le_refl _
  rw[Lib.compactUpTo_succ,nP (show m<zs.length by omega)]
  have e1:zs[m]? =some zs[m]:=bB (by omega)
  cases hk:Lib.keeps zs.toArray m with
  | true=>
   rw[if_pos rfl]
   refine⟨List.pairwise_append.2 ⟨a1,List.pairwise_singleton ..,λx hx y hy=>?_⟩,λz=>?_⟩
   · rw[yr.1 hy]
     obtain⟨j,j1,j2⟩:=(a2 x).1 hx
     rw[bB (show j<zs.length by omega)]at j2
     have hx:=Option.some.inj j2
     have hne:zs[m]≠zs[m-1]'(by omega):=λe=>by
      unfold Lib.keeps at hk
      rw[decide_eq_true_eq,nP (show m<zs.length by omega),nP (show m-1<zs.length by omega)]at hk
      rcases hk with hk | hk
      · omega
      · exact hk e
     have l1:=hmono j (m-1) (by omega) (by omega) (by omega)
     have l2:=hmono (m-1) m (by omega) (by omega) (by omega)
     omega
   · rw[yz,yr,a2]
     constructor
     · rintro(⟨j,j1,j2⟩ | rfl)
       · exact⟨j,by omega,j2⟩
       · exact⟨m,by omega,e1⟩
     · rintro⟨j,j1,j2⟩
       by_cases e:j=m
       · subst e
         rw[e1]at j2
         exact .inr (Option.some.inj j2).symm
       · exact .inl ⟨j,by omega,j2⟩
  | false=>
   rw[if_neg (by simp),List.append_nil]
   refine⟨a1,λz=>?_⟩
   rw[a2]
   constructor
   · rintro⟨j,j1,j2⟩
     exact⟨j,by omega,j2⟩
   · rintro⟨j,j1,j2⟩
     by_cases e:j=m
     · subst e
       have hk':¬(j=0\/zs.toArray[j]!≠zs.toArray[j-1]!):=λhh=>by
        unfold Lib.keeps at hk
        rw[decide_eq_true hh]at hk
        cases hk
       rw[nP (show j<zs.length by omega),nP (show j-1<zs.length by omega)]at hk'
       have h0:j≠0:=λe=>hk' (.inl e)
       have h1:zs[j]=zs[j-1]'(by omega):=Classical.byContradiction λe=>hk' (.inr e)
       refine⟨j-1,by omega,?_⟩
       rw[bB (show j-1<zs.length by omega),← h1,← e1,j2]
     · exact⟨j,by omega,j2⟩
theorem sU {zs:List Int}(h:zs.Pairwise (·<=·)):Asc (Lib.compact zs)/\∀z,z∈Lib.compact zs↔z∈zs:=by
 obtain⟨a,b⟩:=nM h zs.length (Nat.le_refl _)
 refine⟨a,λz=>?_⟩
 unfold Lib.compact
 rw[b]
 constructor
 · rintro⟨j,_,h⟩;exact it h
 · intro hz
   obtain⟨j,hj⟩:=List.getElem?_of_mem hz
   exact⟨j,(gs.1 hj).1,hj⟩
end Go.Proofs.YtpcjbkgbnoocaaaGreat
set_option linter.unusedVariables false
set_option linter.unusedSimpArgs false
namespace Go.Proofs.YtpcjbkgbnoocaaaGreat
open Go Go.Wk Go.Proofs
theorem jZ {p:Sig}(hs:sigOk p=true){x o:Int}(x0:0<=x) (x1:x<pw p.In) (o0:0<=o) (o1:o<pw p.Out):dQ p x o=some (o * pw p.In+x):=by
 have pI:=dK p.In
 have pO:=dK p.Out
 obtain⟨hi,ho⟩:=cm hs
 have hmul:0<=o * pw p.In:=Int.mul_nonneg o0 (by omega)
 have hmul2:o * pw p.In<=4 * 4:=Int.mul_le_mul (by omega) (by omega) (by omega) (by omega)
 unfold dQ
 simp only[cZ,hs,bz,yp,cond_false,bR hi,bR ho]
 rw[wr' (z:=pw p.In-1) (by omega) (by omega),wr' (z:=pw p.Out-1) (by omega) (by omega),wr' (z:=o * pw p.In) (by omega) (by omega),wr' (by omega) (by omega)]
 simp only[cz,pt,bz,cE.2 ⟨x0,x1⟩,cE.2 ⟨o0,o1⟩,yp,cond_false]
end Go.Proofs.YtpcjbkgbnoocaaaGreat
set_option linter.unusedVariables false
set_option linter.unusedSimpArgs false
namespace Go.Proofs.YtpcjbkgbnoocaaaGreat
open Go Go.Wk Go.Proofs
theorem di {p:Sig}(hs:sigOk p=true):cn p=some (pw p.In):=by
 obtain⟨hi,_⟩:=cm hs
 unfold cn
 rw[(dJ hi).1,bz,(dJ hi).2]
end Go.Proofs.YtpcjbkgbnoocaaaGreat
set_option linter.unusedVariables false
set_option linter.unusedSimpArgs false
namespace Go.Proofs.YtpcjbkgbnoocaaaGreat
open Go Go.Wk Go.Proofs
theorem nG:∀{xs ys:List Int},xs.Nodup->(∀x∈xs,x∈ys)->xs.length<=ys.length
 | [],_,_,_=>Nat.zero_le _
 | x::xs,ys,hn,h=>by
  obtain⟨h1,h2⟩:=List.nodup_cons.1 hn
  have hx:=h x (List.mem_cons_self ..)
  have:=nG (ys:=ys.erase x) h2 λz hz=>(List.mem_erase_of_ne (λe=>h1 (by rw[← e];exact hz))).2 (h z (List.mem_cons_of_mem _ hz))
  have h3:=List.length_pos_of_mem hx
  rw[List.length_erase_of_mem hx]at this
  simp only[yu]
  omega
theorem wY {m q q' i i':Nat}(hi:i<m) (hi':i'<m) (h:q * m+i=q' * m+i'):q=q'/\i=i':=by
 have hlt:∀{a b:Nat},a<b->a * m+m<=b * m:=λ{a b} h=>by
  have:=Nat.mul_le_mul_right m (show a+1<=b by omega)
  rwa [Nat.add_mul,Nat.one_mul]at this
 by_cases h1:q<q'
 · have:=hlt h1;omega
 · by_cases h2:q'<q
   · have:=hlt h2;omega
   · have:q=q':=by omega
     subst this
     exact⟨rfl,by omega⟩
theorem oQ {n m q i:Nat}(hq:q<n) (hi:i<m):q * m+i<n * m:=by
 have:=Nat.mul_le_mul_right m (show q+1<=n by omega)
 rw[Nat.add_mul,Nat.one_mul]at this
 omega
def SuccR (d:Det) (m k q i:Nat) (r:List Int):Prop:=Asc r/\∀z,z∈r↔∃o:Nat,o<k/\z=tab d.Next q ((o * m+i:Nat):Int)
theorem SuccR.uniq {d:Det}{m k q i:Nat}{r r':List Int}(h:SuccR d m k q i r) (h':SuccR d m k q i r'):r=r':=rb h.1 h'.1 λz=>by rw[h.2,h'.2]
def rowQ (n m q:Nat):List Int:=(List.range m).map λi=>((n+q * m+i:Nat):Int)
structure ConA (d:Det) (n m k:Nat) (A:Arena):Prop where
 ol:A.Owner=hV n 1++hV (n * m) 0
 nl:A.Next.length=n+n * m
 r1:∀q:Nat,q<n->A.Next[q]? =some (rowQ n m q)
 r0:∀q i:Nat,q<n->i<m->∃r,A.Next[n+(q * m+i)]? =some r/\SuccR d m k q i r
section
variable {d:Det}{n m k:Nat}(hn:n<=48) (hn1:1<=n) (hm1:1<=m) (hm:m<=4) (hk1:1<=k) (hk:k<=4) (hd:d.Next.length=n) (hD:∀row∈d.Next,RowIn (n:Int) ((m * k:Nat):Int) row)
include hn hn1 hm1 hm hk1 hk hd hD
omit hn hn1 hk1 hk in
theorem od {q i o:Nat}(hq:q<n) (hi:i<m) (ho:o<k):∃row,idx d.Next (q:Int)=some row/\idx row ((o * m+i:Nat):Int)=some (tab d.Next q ((o * m+i:Nat):Int))/\0<=tab d.Next q ((o * m+i:Nat):Int)/\tab d.Next q ((o * m+i:Nat):Int)<(n:Int):=by
 have h1:=oQ (n:=k) ho hi
 have h2:k * m=m * k:=Nat.mul_comm _ _
 exact nE hD (by omega) (by omega) (by omega) (by omega)
theorem xc {A:Arena}(h:ConA d n m k A):dw A=true:=by
 have hnm:n * m<=48 * 4:=Nat.mul_le_mul hn hm
 have hol:A.Owner.length=n+n * m:=by rw[h.ol];simp
 have hnl:=h.nl
 unfold dw
 simp only[yo,decide_eq_true_eq,beq_iff_eq]
 refine⟨⟨⟨by omega,by omega⟩,by omega⟩,?_⟩
 rw[List.all_eq_true]
 rintro⟨row,j⟩ hx
 have hx:=List.mem_zipIdx_iff_getElem?.1 hx
 dsimp only at hx ⊢
 have hlt:=(gs.1 hx).1
 unfold vertOk
 by_cases hj:j<n
 · have ho:A.Owner[j]? =some 1:=by
    rw[h.ol,List.getElem?_append_left (by simpa using hj),ym,if_pos hj]
   rw[h.r1 j hj]at hx
   cases hx
   have hl:(rowQ n m j).length=m:=by unfold rowQ;rw[yC,List.length_range]
   have hs:cN (A.Owner.length:Int) (rowQ n m j)=true:=by
    refine go.2 ⟨λx hx=>?_,?_⟩
    · unfold rowQ at hx
      obtain⟨i,hi,e⟩:=List.mem_map.1 hx
      have:=List.mem_range.1 hi
      have:=oQ (n:=n) (m:=m) hj this
      omega
    · unfold rowQ
      refine List.pairwise_map.2 (List.Pairwise.imp (λ{a b} hab=>?_) List.pairwise_lt_range)
      omega
   rw[ho,hs,hl]
   simp only[Bool.and_true,yo,decide_eq_true_eq]
   exact⟨⟨by decide,by omega⟩,by omega⟩
 · have hjm:j-n<n * m:=by omega
   have hq:(j-n) / m<n:=(Nat.div_lt_iff_lt_mul (by omega)).2 hjm
   have hi:(j-n) % m<m:=Nat.mod_lt _ (by omega)
   have e:(j-n) / m * m+(j-n) % m=j-n:=by rw[Nat.mul_comm];exact Nat.div_add_mod _ _
   obtain⟨r,r1,r2,r3⟩:=h.r0 _ _ hq hi
   rw[e,show n+(j-n)=j by omega,hx]at r1
   cases r1
   have ho:A.Owner[j]? =some 0:=by
    rw[h.ol,List.getElem?_append_right (by simp;omega),List.length_replicate,ym,if_pos hjm]
   have hin:∀x∈row,0<=x/\x<(n:Int):=λx hx=>by
    obtain⟨o,ho,e⟩:=(r3 x).1 hx
    obtain⟨_,_,_,a,b⟩:=od hm1 hm hd hD hq hi ho
    rw[e];exact⟨a,b⟩
   have hs:cN (A.Owner.length:Int) row=true:=go.2 ⟨λx hx=>by have:=hin x hx;omega,r2⟩
   have hne:1<=row.length:=List.length_pos_of_mem ((r3 _).2 ⟨0,by omega,rfl⟩)
   have hle:row.length<=k:=by
    -- each is one of k
    have h3:=nG (ys:=(List.range k).map λo=>tab d.Next ((j-n) / m:Nat) ((o * m+(j-n) % m:Nat):Int)) (iD r2) λz hz=>by
     obtain⟨o,ho,e⟩:=(r3 z).1 hz
     exact List.mem_map.2 ⟨o,List.mem_range.2 ho,e.symm⟩
    rwa [yC,List.length_range]at h3
   rw[ho,hs]
   simp only[Bool.and_true,yo,decide_eq_true_eq]
   exact⟨⟨by decide,by omega⟩,by omega⟩
end
end Go.Proofs.YtpcjbkgbnoocaaaGreat
set_option linter.unusedVariables false
set_option linter.unusedSimpArgs false
namespace Go.Proofs.YtpcjbkgbnoocaaaGreat
open Go Go.Wk Go.Proofs
theorem lT {p:Sig}(hs:sigOk p=true):cH p=some (pw p.In):=by
 unfold cH
 rw[bR (cm hs).1];rfl
section
variable {p:Sig}{d:Det}(hs:sigOk p=true){n m k:Nat}(hn:n<=48) (hn1:1<=n) (hm:pw p.In=(m:Int)) (hk:pw p.Out=(k:Int)) (hd:d.Next.length=n) (hD:∀row∈d.Next,RowIn (n:Int) ((m * k:Nat):Int) row)
include hs hn hm hk hd hD
omit hn in
theorem wg {q i:Nat}(hq:q<n) (hi:i<m):∃r,jB p d q i=some r/\SuccR d m k q i r:=by
 have m1:=dK p.In
 have k1:=dK p.Out
 unfold jB
 obtain⟨o,w1,w2⟩:=bY (f:=fI p d q i) (λj (s:List Int×Int)=>s.2=(j:Int)/\j<=k/\Asc s.1/\s.1.length<=j/\∀z,z∈s.1↔∃o:Nat,o<j/\z=tab d.Next q ((o * m+i:Nat):Int)) (λ_=>False) (λs=>SuccR d m k q i s.1) k (λj s ⟨e1,hj,a1,a2,a3⟩=>by
  obtain⟨xs,o⟩:=s
  dsimp only at e1 a1 a2 a3
  subst e1
  unfold fI
  rw[bR (cm hs).2,bz,hk]
  dsimp only
  by_cases hlt:j<k
  · obtain⟨row,r1,r2,_⟩:=od (d:=d) (k:=k) (by omega) (by omega) hd hD hq hi hlt
    obtain⟨R,t1,t2,t3⟩:=vF a1 (tab d.Next q ((j * m+i:Nat):Int)) (by omega)
    have hlet:=jZ hs (x:=(i:Int)) (o:=(j:Int)) (by omega) (by omega) (by omega) (by omega)
    have e:(j:Int) * (m:Int)+(i:Int)=((j * m+i:Nat):Int):=by simp
    rw[hm,e]at hlet
    rw[decide_eq_true (show(j:Int)<(k:Int) by omega),cond_true,r1,bz,hlet,bz,r2,bz,t1,bz,wr' (by omega) (by omega)]
    have hRl:R.length<=xs.length+1:=nG (ys:=tab d.Next q ((j * m+i:Nat):Int)::xs) (iD t2) λz hz=>by
     rcases(t3 z).1 hz with h | h
     · rw[h];exact List.mem_cons_self ..
     · exact List.mem_cons_of_mem _ h
    refine⟨_,rfl,by omega,by dsimp only;omega,by omega,t2,by dsimp only;omega,λz=>?_⟩
    dsimp only
    rw[t3,a3]
    constructor
    · rintro(h | ⟨o,o1,o2⟩)
      · exact⟨j,by omega,h⟩
      · exact⟨o,by omega,o2⟩
    · rintro⟨o,o1,o2⟩
      by_cases e:o=j
      · subst e;exact .inl o2
      · exact .inr ⟨o,by omega,o2⟩
  · have:j=k:=by omega
    subst this
    rw[decide_eq_false (show ¬((j:Nat):Int)<(j:Int) by omega),cond_false]
    exact⟨_,rfl,a1,a3⟩) (2 ^ 64) 0 ([],0) (by omega) ⟨rfl,Nat.zero_le _,List.Pairwise.nil,Nat.le_refl _,λz=>by simp⟩ (by omega)
 match o,w2 with
 | .inr s,h=>rw[w1];exact⟨s.1,rfl,h⟩
omit hn hs in
theorem wE {q i:Nat}(hq:q<n) (hi:i<m):∃xs r,cntM (hZ d (m:Int) q i) k 0 []=some (.inr xs)/\0<xs.length/\xs.length<=4/\cU xs=some (xs.mergeSort λx y=>decide (x<=y))/\eD (xs.mergeSort λx y=>decide (x<=y))=some r/\SuccR d m k q i r:=by
 have m1:=dK p.In
 have k1:=dK p.Out
 obtain⟨xs,h1,h2,h3⟩:=bL (f:=hZ d (m:Int) q i) (λj (s:List Int)=>s.length=j/\∀z,z∈s↔∃o:Nat,o<j/\z=tab d.Next q ((o * m+i:Nat):Int)) k (s:=[]) ⟨rfl,λz=>by simp⟩ (λj s hj ⟨a1,a2⟩=>by
  obtain⟨row,r1,r2,_⟩:=od (d:=d) (k:=k) (by omega) (by omega) hd hD hq hi hj
  have hb:j * m<=4 * 4:=Nat.mul_le_mul (by omega) (by omega)
  have e:(j:Int) * (m:Int)=((j * m:Nat):Int):=by simp
  unfold hZ
  rw[r1,bz,e,wr' (z:=((j * m:Nat):Int)) (by omega) (by omega),wr' (by omega) (by omega),show((j * m:Nat):Int)+(i:Int)=((j * m+i:Nat):Int) by omega,r2,bz,app1 (by omega) rfl]
  refine⟨_,rfl,by rw[yq,a1];rfl,λz=>?_⟩
  rw[yz,yr,a2]
  constructor
  · rintro(⟨o,o1,o2⟩ | h)
    · exact⟨o,by omega,o2⟩
    · exact⟨j,by omega,h⟩
  · rintro⟨o,o1,o2⟩
    by_cases e:o=j
    · subst e;exact .inr o2
    · exact .inl ⟨o,by omega,o2⟩)
 have hpw:(xs.mergeSort λx y=>decide (x<=y)).Pairwise (·<=·):=by
  have h:=List.pairwise_mergeSort (le:=λx y:Int=>decide (x<=y)) (λa b c h1 h2=>by simp only[decide_eq_true_eq]at *;omega) (λa b=>by simp only[Bool.or_eq_true,decide_eq_true_eq];omega) xs
  exact h.imp λh=>by simpa using h
 have hml:(xs.mergeSort λx y=>decide (x<=y)).length=xs.length:=List.length_mergeSort ..
 obtain⟨c1,c2⟩:=sU hpw
 refine⟨xs,_,h1,by omega,by omega,?_,?_,c1,λz=>?_⟩
 · unfold cU
   rw[if_pos ⟨by omega,by omega⟩]
 · unfold eD
   rw[if_pos ⟨by omega,by omega⟩]
 · rw[c2,List.mem_mergeSort,h3]
omit hs hk hD in
theorem uD:cntM (dX d (m:Int)) n 0 ([],[])=some (.inr (hV n 1,(List.range n).map (rowQ n m)))/\cntM (ic d (m:Int)) n 0 ([],[])=some (.inr (hV n 1,(List.range n).map (rowQ n m))):=by
 have m1:=dK p.In
 have hr:rng (m:Int)=some ():=by unfold rng;rw[if_pos (by omega)]
 have hin:∀q:Nat,q<n->cntM (ek d (m:Int) q) m 0 []=some (.inr (rowQ n m q))/\cntM (gx d (m:Int) q) m 0 []=some (.inr (rowQ n m q)):=λq hq=>by
  have hb:q * m<=48 * 4:=Nat.mul_le_mul (by omega) (by omega)
  have e:(q:Int) * (m:Int)=((q * m:Nat):Int):=by simp
  have hv:∀j:Nat,j<m->IntKind.i64.wrap (IntKind.i64.wrap ((d.Next.length:Int)+IntKind.i64.wrap ((q:Int) * (m:Int)))+(j:Int))=((n+q * m+j:Nat):Int):=λj hj=>by
   rw[e,wr' (z:=((q * m:Nat):Int)) (by omega) (by omega),wr' (z:=(d.Next.length:Int)+((q * m:Nat):Int)) (by omega) (by omega),wr' (by omega) (by omega)]
   omega
  have hl:∀j:Nat,((List.range j).map λi=>((n+q * m+i:Nat):Int)).length=j:=λj=>by rw[yC,List.length_range]
  constructor
  · obtain⟨s,h1,h2⟩:=bL (f:=ek d (m:Int) q) (λj s=>s=(List.range j).map λi=>((n+q * m+i:Nat):Int)) m (s:=[]) rfl (λj s hj e=>by
     subst e
     unfold ek
     rw[hv j hj,app1 (by rw[hl];omega) rfl]
     exact⟨_,rfl,by rw[List.range_succ,List.map_append];rfl⟩)
    rw[h1,h2];rfl
  · obtain⟨s,h1,h2⟩:=bL (f:=gx d (m:Int) q) (λj s=>s=(List.range j).map λi=>((n+q * m+i:Nat):Int)) m (s:=[]) rfl (λj s hj e=>by
     subst e
     unfold gx
     rw[hv j hj,app1 (by rw[hl];omega) rfl]
     exact⟨_,rfl,by rw[List.range_succ,List.map_append];rfl⟩)
    rw[h1,h2];rfl
 have hm0:yn ((m:Int)-0)=m:=by omega
 constructor
 · obtain⟨s,h1,h2⟩:=bL (f:=dX d (m:Int)) (λj s=>s=(hV j 1,(List.range j).map (rowQ n m))) n (s:=([],[])) rfl (λj s hj e=>by
    subst e
    unfold dX
    dsimp only
    rw[hr,bz,hm0,(hin j hj).1,bz,bE,app1 (by simp;omega) rfl,bz,app1 (by simp;omega) rfl,bz]
    exact⟨_,rfl,by rw[List.replicate_succ',List.range_succ,List.map_append];rfl⟩)
   rw[h1,h2]
 · obtain⟨s,h1,h2⟩:=bL (f:=ic d (m:Int)) (λj s=>s=(hV j 1,(List.range j).map (rowQ n m))) n (s:=([],[])) rfl (λj s hj e=>by
    subst e
    unfold ic
    dsimp only
    rw[hr,bz,hm0,(hin j hj).2,bz,bE,app1 (by simp;omega) rfl,bz,app1 (by simp;omega) rfl,bz]
    exact⟨_,rfl,by rw[List.replicate_succ',List.range_succ,List.map_append];rfl⟩)
   rw[h1,h2]
def ConR (d:Det) (n m k c:Nat) (s:List Int×List (List Int)):Prop:=s.1=hV n 1++hV c 0/\∃R,s.2=(List.range n).map (rowQ n m)++R/\R.length=c/\∀q i:Nat,q<n->i<m->q * m+i<c->∃r,R[q * m+i]? =some r/\SuccR d m k q i r
theorem tM:∃s,cntM (em p d (m:Int)) n 0 (hV n 1,(List.range n).map (rowQ n m))=some (.inr s)/\cntM (g8 p d (m:Int)) n 0 (hV n 1,(List.range n).map (rowQ n m))=some (.inr s)/\ConR d n m k (n * m) s:=by
 have m1:=dK p.In
 have k1:=dK p.Out
 have hr:rng (m:Int)=some ():=by unfold rng;rw[if_pos (by omega)]
 have hrk:rng (k:Int)=some ():=by unfold rng;rw[if_pos (by omega)]
 have hm0:yn ((m:Int)-0)=m:=by omega
 have hk0:yn ((k:Int)-0)=k:=by omega
 obtain⟨sh1,sh2⟩:=dJ (cm hs).2
 rw[hk]at sh2
 have hnm:n * m<=48 * 4:=Nat.mul_le_mul hn (by omega)
 obtain⟨s,t,h1,h2,h3,h4⟩:=rq (f:=em p d (m:Int)) (g:=g8 p d (m:Int)) (λq s t=>s=t/\ConR d n m k (q * m) s) n (s:=(hV n 1,(List.range n).map (rowQ n m))) (t:=(hV n 1,(List.range n).map (rowQ n m))) ⟨rfl,by rw[Nat.zero_mul];exact⟨by simp,[],by simp,rfl,λq i _ _ h=>absurd h (Nat.not_lt_zero _)⟩⟩ (λq s t hq ⟨e,hC⟩=>by
  subst e
  obtain⟨s',t',g1,g2,g3,g4⟩:=rq (f:=ed p d q) (g:=ib p d (m:Int) q) (λi s t=>s=t/\ConR d n m k (q * m+i) s) m (s:=s) (t:=s) ⟨rfl,hC⟩ (λi s t hi ⟨e,hC⟩=>by
   subst e
   obtain⟨c1,R,c2,c3,c4⟩:=hC
   obtain⟨r,r1,r2⟩:=wg hs hm hk hd hD hq hi
   obtain⟨xs,r',x1,x2,x3,x4,x5,x6⟩:=wE hm hk hd hD hq hi
   have:=r2.uniq x6
   subst this
   have hlt:=oQ (n:=n) hq hi
   have l1:s.1.length=n+(q * m+i):=by rw[c1];simp
   have l2:s.2.length=n+(q * m+i):=by rw[c2];simp[c3]
   unfold ed ib
   rw[app1 (xs:=s.1) (by omega) rfl,r1,sh1,sh2,hrk,hk0,x1]
   simp only[bz,bE]
   rw[x4,app1 (xs:=s.2) (by omega) rfl]
   simp only[bz]
   rw[x5,bz,app1 (xs:=s.2) (by omega) rfl,bz]
   refine⟨_,_,rfl,rfl,rfl,?_,R++[r],?_,by rw[yq,c3];rfl,λq' i' hq' hi' hlt'=>?_⟩
   · dsimp only
     rw[c1,← Nat.add_assoc,List.replicate_succ',List.append_assoc]
   · dsimp only
     rw[c2,List.append_assoc]
   · by_cases e:q' * m+i'=q * m+i
     · obtain⟨e1,e2⟩:=wY hi' hi e
       subst e1 e2
       exact⟨r,by rw[← c3];simp,r2⟩
     · obtain⟨r0,a,b⟩:=c4 q' i' hq' hi' (by omega)
       exact⟨r0,by rw[List.getElem?_append_left (by omega)];exact a,b⟩)
  subst g3
  unfold em g8
  rw[hr,bz,bz,hm0]
  have g1':cntM (ed p d q) m 0 (s.1,s.2)=some (.inr s'):=g1
  have g2':cntM (ib p d (m:Int) q) m 0 (s.1,s.2)=some (.inr s'):=g2
  rw[g1',g2',bz,bz,bE,bE]
  exact⟨_,_,rfl,rfl,rfl,by rw[Nat.add_mul,Nat.one_mul];exact g4⟩)
 subst h3
 exact⟨s,h1,h2,h4⟩
end
theorem copyPairs {ps:List Pair}(hl:ps.length<=4) (hb:∀x∈ps,x.Ask.length<=1000000000/\x.Give.length<=1000000000) (X:Det) (hX:X.Pairs=ps):cntM (ea X) ps.length 0 []=some (.inr ps)/\cntM (gc X) ps.length 0 []=some (.inr ps):=by
 constructor
 · obtain⟨s,h1,h2⟩:=bL (f:=ea X) (λj s=>s=ps.take j) ps.length (s:=[]) rfl (λj s hj e=>by
    subst e
    have hx:ps[j]? =some ps[j]:=bB hj
    generalize ps[j]=x at hx
    obtain⟨b1,b2⟩:=hb x (it hx)
    have cp:∀{xs:List Int},xs.length<=1000000000->cA xs=some xs:=λ{xs} h=>by
     unfold cA
     rw[appL (by rw[yw];omega) rfl];rfl
    unfold ea
    rw[hX,bC,hx,bz,bz,cp b1,bz,cp b2,bz,app1 (by rw[yv];omega) rfl]
    exact⟨_,rfl,by rw[yA,hx];rfl⟩)
   rw[h1,h2,List.take_length]
 · obtain⟨s,h1,h2⟩:=bL (f:=gc X) (λj s=>s=ps.take j) ps.length (s:=[]) rfl (λj s hj e=>by
    subst e
    have hx:ps[j]? =some ps[j]:=bB hj
    generalize ps[j]=x at hx
    obtain⟨b1,b2⟩:=hb x (it hx)
    unfold gc pP
    rw[hX,bC,hx,bz,appL (by rw[yw];omega) rfl,bz,appL (by rw[yw];omega) rfl,bz,bz,app1 (by rw[yv];omega) rfl]
    exact⟨_,rfl,by rw[yA,hx];rfl⟩)
   rw[h1,h2,List.take_length]
theorem rX {p:Sig}{d:Det}(hs:sigOk p=true) (hd:detOk p d=true):∃(n m k:Nat) (A:Arena),d.Next.length=n/\pw p.In=(m:Int)/\pw p.Out=(k:Int)/\1<=n/\n<=48/\1<=m/\m<=4/\1<=k/\k<=4/\(∀row∈d.Next,RowIn (n:Int) ((m * k:Nat):Int) row)/\(∀x∈d.Pairs,x.Ask.length<=1000000000/\x.Give.length<=1000000000)/\ConA d n m k A/\dh p d=some (A,d.Pairs,true)/\gu p d=some (A,d.Pairs):=by
 obtain⟨h1,h2,h3,h4⟩:=ir hd
 have m1:=dK p.In
 have k1:=dK p.Out
 obtain⟨m,hm⟩:=dt (z:=pw p.In) (by omega)
 obtain⟨k,hk⟩:=dt (z:=pw p.Out) (by omega)
 have hb:∀x∈d.Pairs,x.Ask.length<=1000000000/\x.Give.length<=1000000000:=λx hx=>by
  have hd':=hd
  unfold detOk at hd'
  simp only[yo]at hd'
  have hp:=hd'.1.2
  unfold pairsOk at hp
  rw[yo,List.all_eq_true]at hp
  have:=hp.2 x hx
  unfold pairOk at this
  rw[yo]at this
  have a1:=(St.of this.1).len
  have a2:=(St.of this.2).len
  omega
 have hD:∀row∈d.Next,RowIn (d.Next.length:Int) ((m * k:Nat):Int) row:=λrow hr=>by
  have:=h4 row hr
  unfold ltd at this
  rw[hm,hk]at this
  simpa using this
 obtain⟨f1,f2⟩:=uD h2 hm rfl
 obtain⟨s,s1,s2,c1,R,c2,c3,c4⟩:=tM hs h2 hm hk rfl hD
 obtain⟨p1,p2⟩:=copyPairs h3 hb d rfl
 refine⟨d.Next.length,m,k,⟨s.1,s.2⟩,rfl,hm,hk,h1,h2,by omega,by omega,by omega,by omega,hD,hb,⟨c1,?_,λq hq=>?_,λq i hq hi=>?_⟩,?_,?_⟩
 · show s.2.length=_
   rw[c2];simp[c3]
 · show s.2[q]? =_
   rw[c2,List.getElem?_append_left (by simpa using hq),List.getElem?_map,List.getElem?_range hq];rfl
 · obtain⟨r,r1,r2⟩:=c4 q i hq hi (oQ hq hi)
   refine⟨r,?_,r2⟩
   show s.2[_]? =_
   rw[c2,List.getElem?_append_right (by simp),yC,List.length_range,Nat.add_sub_cancel_left]
   exact r1
 · unfold dh
   rw[gp hs hb,hd,bz,yp,cond_false,lT hs,bz,hm,f1,bz,bE]
   dsimp only
   rw[s1,bz,bE,p1];rfl
 · unfold gu
   rw[di hs,bz,hm,f2,bz,bE]
   dsimp only
   rw[s2,bz,bE,p2];rfl
end Go.Proofs.YtpcjbkgbnoocaaaGreat
set_option linter.unusedVariables false
set_option linter.unusedSimpArgs false
namespace Go.Proofs.YtpcjbkgbnoocaaaGreat
open Go Go.Wk Go.Proofs
def atP (P:List Place) (y:Int):Int:=match idx P y with | some v=>v.At | none=> -1
theorem ff {P:List Place}{y:Int}{v:Place}(h:idx P y=some v):atP P y=v.At:=by unfold atP;rw[h]
structure Cx (d:Det) (n m k:Nat) (A:Arena) (P:List Place) (g:Parity) (W:Int->Prop) (pk:List Int):Prop where
 n1:1<=n
 n48:n<=48
 m1:1<=m
 m4:m<=4
 k1:1<=k
 k4:k<=4
 dl:d.Next.length=n
 cell:∀row∈d.Next,RowIn (n:Int) ((m * k:Nat):Int) row
 con:ConA d n m k A
 rg:RecG A d.Pairs ⟨0,firstR d.Pairs.length⟩ P g
 ok:cF g=true
 sol:Solv g W pk
section
variable {d:Det}{n m k:Nat}{A:Arena}{P:List Place}{g:Parity}{W:Int->Prop}{pk:List Int}(h:Cx d n m k A P g W pk)
include h
theorem Cx.len:g.Prio.length=P.length/\g.Arena.Owner.length=P.length/\g.Arena.Next.length=P.length/\P.length<=256/\1<=P.length/\pk.length=P.length:=by
 have r:=h.rg.game
 have h1:=r.ol
 have h2:=r.nl
 have h3:=r.ql
 have h4:=h.sol.len
 have h5:=(gs.1 r.zero).1
 exact⟨h3,h1,h2,h.rg.le,by omega,by omega⟩
theorem Cx.place {x:Int}(hx:Xn P.length x):∃v,idx P x=some v/\0<=v.At/\v.At<((n+n * m:Nat):Int):=by
 obtain⟨v,hv,hm⟩:=cJ (xs:=P) hx.1 hx.2
 have o:=h.rg.game.inn v hm
 have h2:=o.a1
 rw[h.con.ol,yq,List.length_replicate,List.length_replicate]at h2
 exact⟨v,hv,o.a0,h2⟩
theorem Cx.row {x:Int}{v:Place}(hv:idx P x=some v):∃r ar rc,idx g.Arena.Next x=some r/\idx A.Next v.At=some ar/\RowP P ar rc r/\idx g.Arena.Owner x=idx A.Owner v.At/\r.length<=16:=by
 obtain⟨x0,x1⟩:=(iJ hv)
 obtain⟨i,hi⟩:=dt x0
 subst hi
 rw[bC]at hv
 have hlt:=(gs.1 hv).1
 obtain⟨b1,_,r,ar,b3,b4,b5⟩:=h.rg.game.row i v hlt hv
 refine⟨r,ar,_,by rw[bC];exact b3,b4,b5,by rw[bC];exact b1,?_⟩
 have:=(dN h.ok).2.2.2.2 i r b3
 exact this.2.1
omit h in
theorem ph {x y:Int}{r:List Int}(hr:idx g.Arena.Next x=some r):(gI g).E x y↔y∈r:=by
 show y∈cL g.Arena x↔_
 rw[dx hr]
theorem Cx.state {x:Int}{v:Place}(hv:idx P x=some v) (hs:v.At<(n:Int)):(gI g).own x=true/\∃(q:Nat) (r:List Int),v.At=(q:Int)/\q<n/\idx g.Arena.Next x=some r/\(∀y∈r,Xn P.length y/\∃i:Nat,i<m/\atP P y=((n+(q * m+i):Nat):Int))/\∀i:Nat,i<m->∃y∈r,atP P y=((n+(q * m+i):Nat):Int):=by
 obtain⟨v',hv',a0,_⟩:=h.place (x:=x) ⟨(iJ hv).1,(iJ hv).2.1⟩
 rw[hv]at hv'
 cases hv'
 obtain⟨q,hq⟩:=dt a0
 have hqn:q<n:=by omega
 obtain⟨r,ar,rc,r1,r2,r3,r4,_⟩:=h.row hv
 have hAr:ar=rowQ n m q:=by
  rw[hq,bC,h.con.r1 q hqn]at r2
  exact(Option.some.inj r2).symm
 subst hAr
 have how:idx g.Arena.Owner x=some 1:=by
  rw[r4,hq,bC,h.con.ol,List.getElem?_append_left (by simpa using hqn),ym,if_pos hqn]
 refine⟨?_,q,r,hq,hqn,r1,λy hy=>?_,λi hi=>?_⟩
 · show ownL _ x=true
   unfold ownL
   rw[how];rfl
 · obtain⟨y0,u,hu,e⟩:=r3.to y hy
   have hlt:=(gs.1 e).1
   unfold rowQ at hu
   obtain⟨i,hi,hu⟩:=List.mem_map.1 hu
   refine⟨⟨y0,by omega⟩,i,List.mem_range.1 hi,?_⟩
   rw[ff (by rw[cX y0];exact e),← hu,Nat.add_assoc]
 · obtain⟨y,hy,y0,e⟩:=r3.has ((n+q * m+i:Nat):Int) (by unfold rowQ;exact List.mem_map.2 ⟨i,List.mem_range.2 hi,rfl⟩)
   refine⟨y,hy,?_⟩
   rw[ff (by rw[cX y0];exact e),Nat.add_assoc]
theorem Cx.mid {y:Int}(hy:Xn P.length y){q i:Nat}(hq:q<n) (hi:i<m) (ha:atP P y=((n+(q * m+i):Nat):Int)):(gI g).own y=false/\∃r,idx g.Arena.Next y=some r/\(∀z∈r,Xn P.length z/\∃o:Nat,o<k/\atP P z=tab d.Next q ((o * m+i:Nat):Int))/\∀o:Nat,o<k->∃z∈r,atP P z=tab d.Next q ((o * m+i:Nat):Int):=by
 obtain⟨v,hv,_,_⟩:=h.place hy
 rw[ff hv]at ha
 obtain⟨r,ar,rc,r1,r2,r3,r4,_⟩:=h.row hv
 have hlt:=oQ (n:=n) hq hi
 obtain⟨ar',s1,s2,s3⟩:=h.con.r0 q i hq hi
 have hAr:ar=ar':=by
  rw[ha,bC,s1]at r2
  exact(Option.some.inj r2).symm
 subst hAr
 have how:idx g.Arena.Owner y=some 0:=by
  rw[r4,ha,bC,h.con.ol,List.getElem?_append_right (by simp),List.length_replicate,Nat.add_sub_cancel_left,ym,if_pos hlt]
 refine⟨?_,r,r1,λz hz=>?_,λo ho=>?_⟩
 · show ownL _ y=false
   unfold ownL
   rw[how];rfl
 · obtain⟨z0,u,hu,e⟩:=r3.to z hz
   have hl:=(gs.1 e).1
   obtain⟨o,ho,hu⟩:=(s3 u).1 hu
   exact⟨⟨z0,by omega⟩,o,ho,by rw[ff (by rw[cX z0];exact e),hu]⟩
 · obtain⟨z,hz,z0,e⟩:=r3.has _ ((s3 _).2 ⟨o,ho,rfl⟩)
   exact⟨z,hz,by rw[ff (by rw[cX z0];exact e)]⟩
theorem Cx.cellAt {q i o:Nat}(hq:q<n) (hi:i<m) (ho:o<k):∃row,idx d.Next (q:Int)=some row/\idx row ((o * m+i:Nat):Int)=some (tab d.Next q ((o * m+i:Nat):Int))/\0<=tab d.Next q ((o * m+i:Nat):Int)/\tab d.Next q ((o * m+i:Nat):Int)<(n:Int):=
 od h.m1 h.m4 h.dl h.cell hq hi ho
theorem Cx.mine {x:Int}(hx:Xn P.length x) (ho:(gI g).own x=wB W x):∃y,idx pk x=some y/\Xn P.length y/\(gI g).E x y/\wB W y=wB W x:=by
 obtain⟨l1,_,_,_,_,l6⟩:=h.len
 have ha:=h.sol.ans
 rw[l1]at ha
 obtain⟨a1,a2,a3,a4⟩:=ha.mine x hx ho
 obtain⟨y,hy,_⟩:=cJ (xs:=pk) hx.1 (by have:=hx.2;omega)
 rw[qq hy]at a1 a2 a3 a4
 exact⟨y,hy,a3,a2,a4⟩
theorem Cx.yours {x y:Int}(hx:Xn P.length x) (ho:¬(gI g).own x=wB W x) (he:(gI g).E x y) (hy:Xn P.length y):wB W y=wB W x:=by
 obtain⟨l1,_⟩:=h.len
 have ha:=h.sol.ans
 rw[l1]at ha
 exact ha.yours x y hx ho he hy
end
def toP (P:List Place) (r:List Int) (z:Int):Option Nat:=r.findIdx? λy=>atP P y==z
theorem ve {P:List Place}{r:List Int}{z:Int}(h:∃y∈r,atP P y=z):∃j y,toP P r z=some j/\r[j]? =some y/\atP P y=z:=by
 obtain⟨y,hy,e⟩:=h
 cases hf:toP P r z with
 | none=>
  unfold toP at hf
  rw[List.findIdx?_eq_none_iff]at hf
  have:=hf y hy
  simp[e]at this
 | some j=>
  unfold toP at hf
  obtain⟨h1,h2,_⟩:=List.findIdx?_eq_some_iff_getElem.1 hf
  exact⟨j,r[j],rfl,bB h1,by simpa using h2⟩
def tgt (P:List Place) (r:List Int) (z:Int):Int:=match toP P r z with | some j=>r.getD j 0 | none=> -1
theorem rI {P:List Place}{r:List Int}{z:Int}(h:∃y∈r,atP P y=z):tgt P r z∈r/\atP P (tgt P r z)=z/\∃j:Nat,toP P r z=some j/\r[j]? =some (tgt P r z):=by
 obtain⟨j,y,h1,h2,h3⟩:=ve h
 have e:tgt P r z=y:=by
  unfold tgt
  rw[h1]
  show r.getD j 0=y
  rw[List.getD_eq_getElem?_getD,h2];rfl
 rw[e]
 exact⟨it h2,h3,j,h1,h2⟩
def cC (f:Nat->Int) (F:List Int):Nat->List Int×List Int
 | 0=>(F,[])
 | j+1=>(addN (cC f F j).1 (f j),(cC f F j).2++[cS (addN (cC f F j).1 (f j)) (f j)])
theorem oK {F:List Int}{t:Int}(h:t∈F):0<=cS F t/\cS F t<(F.length:Int):=by
 unfold cS
 cases hf:F.findIdx? (λx=>t==x) with
 | none=>
  rw[List.findIdx?_eq_none_iff]at hf
  have:=hf t h
  simp at this
 | some i=>
  obtain⟨h1,_⟩:=List.findIdx?_eq_some_iff_getElem.1 hf
  dsimp only
  omega
theorem vv {F:List Int}{t:Int}:t∈addN F t:=by
 unfold addN
 by_cases h:t∈F
 · rw[if_pos h];exact h
 · rw[if_neg h];simp
theorem vH {F:List Int}{t x:Int}(h:x∈addN F t):x∈F\/x=t:=by
 unfold addN at h
 by_cases ht:t∈F
 · rw[if_pos ht]at h;exact .inl h
 · rw[if_neg ht]at h;simpa using h
theorem oq {F:List Int}(t:Int) (hl:F.length<=1000):(bif decide (cS F t<0) then bu (appS 8 F [t]) λx=>some (x,(F.length:Int)) else some (F,cS F t))=some (addN F t,cS (addN F t) t):=by
 by_cases h:t∈F
 · rw[decide_eq_false (by have:=(oK h).1;omega),cond_false]
   unfold addN
   rw[if_pos h]
 · rw[oI h,decide_eq_true (by omega),cond_true,app1 (by omega) rfl]
   unfold addN
   rw[if_neg h,uS h];rfl
structure NmRow (N:Nat) (F:List Int) (j:Nat) (Q:Int->Prop) (F' row:List Int):Prop where
 nm:Names N F'
 pre:∀(i:Nat) v,F[i]? =some v->F'[i]? =some v
 len:F.length<=F'.length
 le:F'.length<=F.length+j
 rl:row.length=j
 rin:∀x∈row,0<=x/\x<(F'.length:Int)
 all:∀x∈F',Q x
theorem qh {N:Nat}{F:List Int}{Q:Int->Prop}(hF:Names N F) (hQ:∀x∈F,Q x){f:Nat->Int}{c:Nat}(hf:∀j,j<c->0<=f j/\f j<(N:Int)/\Q (f j)):∀j,j<=c->NmRow N F j Q (cC f F j).1 (cC f F j).2
 | 0,_=>⟨hF,λ_ _ h=>h,Nat.le_refl _,Nat.le_refl _,rfl,λx hx=>(by cases hx),hQ⟩
 | j+1,hj=>by
  have r:=qh hF hQ hf j (by omega)
  obtain⟨f0,f1,f2⟩:=hf j (by omega)
  unfold cC
  generalize cC f F j=G at *
  obtain⟨a1,a2⟩:=r.nm.add f0 f1
  have hlen:G.1.length<=(addN G.1 (f j)).length/\(addN G.1 (f j)).length<=G.1.length+1:=by
   unfold addN
   by_cases h:f j∈G.1
   · rw[if_pos h];omega
   · rw[if_neg h,yq];simp
  have h1:=r.len
  have h2:=r.le
  have hm:=oK (vv (F:=G.1) (t:=f j))
  refine⟨a1,λi v hv=>a2 i v (r.pre i v hv),by dsimp only;omega,by dsimp only;omega,by simp[r.rl],λx hx=>?_,λx hx=>?_⟩
  · rcases yz.1 hx with hx | hx
    · have:=r.rin x hx
      dsimp only;omega
    · rw[yr.1 hx];exact hm
  · rcases vH hx with hx | hx
    · exact r.all x hx
    · rw[hx];exact f2
end Go.Proofs.YtpcjbkgbnoocaaaGreat
set_option linter.unusedVariables false
set_option linter.unusedSimpArgs false
namespace Go.Proofs.YtpcjbkgbnoocaaaGreat
open Go Go.Wk Go.Proofs
theorem vB (p:Sig):gC p zeroD=some false:=by
 cases hs:sigOk p with
 | true=>
  rw[gp hs (λx hx=>by cases hx)]
  rfl
 | false=>
  unfold gC
  rw[cZ,hs];rfl
theorem vA (p:Sig):dh p zeroD=some (⟨[],[]⟩,[],false):=by
 unfold dh
 rw[vB];rfl
theorem vk:dp ⟨[],[]⟩ [] 0=some noRec:=by
 unfold dp
 rw[lI];rfl
structure Stp3 (p:Sig) (cs:List Clause) (d:Det) (n m k:Nat) (A:Arena) (P:List Place) (g:Parity) (W:Int->Prop) (pk:List Int):Prop where
 sig:sigOk p=true
 det:detOk p d=true
 im:pw p.In=(m:Int)
 ok:pw p.Out=(k:Int)
 cx:Cx d n m k A P g W pk
 sC:dh p d=some (A,d.Pairs,true)
 iC:gu p d=some (A,d.Pairs)
 sR:dp A d.Pairs 0=some (g,P,true)
 iR:gh A d.Pairs 0=some (g,P,true)
 sS:j0 g=some ⟨wonL g.Prio.length W,pk⟩
 iS:lY g=some ⟨wonL g.Prio.length W,pk⟩
 sW:g6 g=some (wonL g.Prio.length W)
 iW:iK g=some (wonL g.Prio.length W)
 won:idx (wonL g.Prio.length W) 0=some (b2i (wB W 0))
structure Stp2 (p:Sig) (d:Det) (A:Arena):Prop where
 sig:sigOk p=true
 det:detOk p d=true
 pb:∀x∈d.Pairs,x.Ask.length<=1000000000/\x.Give.length<=1000000000
 aok:dw A=true
 pok:pairsOk d.Pairs (A.Owner.length:Int)=true
 a1:1<=A.Owner.length/\A.Owner.length<=256
 sC:dh p d=some (A,d.Pairs,true)
 iC:gu p d=some (A,d.Pairs)
theorem setup (p:Sig){cs:List Clause}(hb:∀c∈cs,Clause.bd c):(dF p cs=some (zeroD,false)/\eW p cs=some (zeroD,false))\/∃d A,dF p cs=some (d,true)/\eW p cs=some (d,true)/\Stp2 p d A /\
 ((dp A d.Pairs 0=some noRec/\gh A d.Pairs 0=some noRec)\/∃n m k P g W pk,Stp3 p cs d n m k A P g W pk):=by
 rcases rE p hb with ⟨h1,h2,_⟩ | ⟨hs,hc,_,d,_,_,_,hd,_,h1,h2⟩
 · exact .inl ⟨h1,h2⟩
 · right
   obtain⟨n,m,k,A,q1,q2,q3,n1,n48,m1,m4,k1,k4,hD,hpb,hA,hsC,hiC⟩:=rX hs hd
   have hAok:=xc n48 n1 m1 m4 k1 k4 q1 hD hA
   have hol:A.Owner.length=n+n * m:=by rw[hA.ol];simp
   have hnm:n * m<=48 * 4:=Nat.mul_le_mul n48 m4
   have hps:pairsOk d.Pairs (A.Owner.length:Int)=true:=by
    have hd':=hd
    unfold detOk at hd'
    simp only[yo]at hd'
    have hp:=hd'.1.2
    unfold pairsOk at hp ⊢
    rw[yo,List.all_eq_true]at hp ⊢
    refine⟨hp.1,λx hx=>?_⟩
    have:=hp.2 x hx
    unfold pairOk at this ⊢
    rw[yo]at this ⊢
    exact⟨(St.of this.1).ok (by omega),(St.of this.2).ok (by omega)⟩
   refine⟨d,A,h1,h2,⟨hs,hd,hpb,hAok,hps,⟨by omega,by omega⟩,hsC,hiC⟩,?_⟩
   rcases qw hAok hps hpb (Int.le_refl 0) (by omega) with ⟨r1,r2⟩ | ⟨P,g,hG,hok,r1,r2⟩
   · exact .inl ⟨r1,r2⟩
   · right
     obtain⟨W,pk,s1,s2,s3,s4,s5⟩:=se hok
     have hcx:Cx d n m k A P g W pk:=⟨n1,n48,m1,m4,k1,k4,q1,hD,hA,hG,hok,s5⟩
     obtain⟨l1,_,_,_,l5,_⟩:=hcx.len
     exact⟨n,m,k,P,g,W,pk,hs,hd,q2,q3,hcx,hsC,hiC,r1,r2,s1,s2,s3,s4,kR ⟨Int.le_refl _,by omega⟩⟩
end Go.Proofs.YtpcjbkgbnoocaaaGreat
set_option linter.unusedVariables false
set_option linter.unusedSimpArgs false
namespace Go.Proofs.YtpcjbkgbnoocaaaGreat
open Go Go.Wk Go.Proofs
theorem xg {P:List Place}{r:List Int}{z:Int}(hr:∀y∈r,Xn P.length y):nO r P z=some (tgt P r z):=by
 unfold nO
 rw[dC (f:=jE r P z) (λy=>atP P y==z) (λi=>r.getD i 0) (xs:=r) (λi y hy=>by
  obtain⟨v,hv,_⟩:=cJ (xs:=P) (hr y (it hy)).1 (hr y (it hy)).2
  unfold jE
  rw[bC,hy,bz,hv,bz,ff hv,bz,List.getD_eq_getElem?_getD,hy]
  cases v.At==z <;> rfl)]
 unfold tgt toP
 cases r.findIdx? (λy=>atP P y==z) <;> rfl
theorem xH {P:List Place}{r:List Int}{z:Int}(hr:∀y∈r,Xn P.length y){j:Nat}(hj:toP P r z=some j):cd r P z=some (j:Int):=by
 rw[ew (λy=>atP P y==z) (λy hy=>by
  obtain⟨v,hv,_⟩:=cJ (xs:=P) (hr y hy).1 (hr y hy).2
  unfold km
  rw[hv,bz,ff hv])]
 unfold toP at hj
 rw[hj]
section
variable {p:Sig}(hs:sigOk p=true){d:Det}{n m k:Nat}{A:Arena}{P:List Place}{g:Parity}{W:Int->Prop}{pk wn:List Int}(h:Cx d n m k A P g W pk) (hm:pw p.In=(m:Int)) (hk:pw p.Out=(k:Int))
include hs h hm hk
theorem tg {F:List Int}(hF:F.length<=256){v u:Place}{y:Int}{q i:Nat}{r:List Int}(hq:q<n) (hi:i<m) (hv:v.At=(q:Int)) (hr:idx g.Arena.Next y=some r) (hR:∀z∈r,Xn P.length z) (hA:∀o:Nat,o<k->∃z∈r,atP P z=tab d.Next q ((o * m+i:Nat):Int)) (hin:Int.tmod (IntKind.i64.wrap (u.At-(d.Next.length:Int))) (m:Int)=(i:Int)):
 (∃z,bI (dU p (d,true) (g,P,true) v y u (m:Int)) (2 ^ 64) (F,[],0)=some (.inr ((cC (λo=>tgt P r (tab d.Next q ((o * m+i:Nat):Int))) F k).1,(cC (λo=>tgt P r (tab d.Next q ((o * m+i:Nat):Int))) F k).2,z))) /\
 cntM (gF p d g P v y u (m:Int)) k 0 (F,[])=some (.inr (cC (λo=>tgt P r (tab d.Next q ((o * m+i:Nat):Int))) F k)):=by
 have hk4:=h.k4
 have hm4:=h.m4
 generalize hfe:(λo:Nat=>tgt P r (tab d.Next q ((o * m+i:Nat):Int)))=f
 have hf:∀o,f o=tgt P r (tab d.Next q ((o * m+i:Nat):Int)):=λo=>by rw[← hfe]
 have hlen:∀j,j<=k->(cC f F j).1.length<=300/\(cC f F j).2.length=j:=by
  intro j
  induction j with
  | zero=>intro _;exact⟨by show F.length<=300;omega,rfl⟩
  | succ j ih=>
   intro hj
   have hle:(cC f F j).1.length<=F.length+j:=by
    clear ih hj
    induction j with
    | zero=>exact Nat.le_refl _
    | succ j ih=>
     show(addN _ _).length<=_
     unfold addN
     split
     · omega
     · rw[yq];simp;omega
   obtain⟨_,b⟩:=ih (by omega)
   refine⟨?_,by show((cC f F j).2++[_]).length=_;rw[yq,b];rfl⟩
   show(addN _ _).length<=300
   unfold addN
   split
   · omega
   · rw[yq];simp;omega
 have hfacts:∀j:Nat,j<k->∃row,idx d.Next v.At=some row/\idx row ((j:Int) * (m:Int)+(i:Int))=some (tab d.Next q ((j * m+i:Nat):Int))/\∃jj:Nat,toP P r (tab d.Next q ((j * m+i:Nat):Int))=some jj/\r[jj]? =some (f j):=λj hj=>by
  obtain⟨row,r1,r2,_⟩:=h.cellAt hq hi hj
  obtain⟨_,_,jj,t1,t2⟩:=rI (hA j hj)
  refine⟨row,by rw[hv];exact r1,?_,jj,t1,by rw[hf];exact t2⟩
  rw[← r2]
  congr 1
 constructor
 · obtain⟨o,w1,w2⟩:=bY (f:=dU p (d,true) (g,P,true) v y u (m:Int)) (λj (s:List Int×List Int×Int)=>s=((cC f F j).1,(cC f F j).2,(j:Int))/\j<=k) (λ_=>False) (λs=>∃z,s=((cC f F k).1,(cC f F k).2,z)) k (λj s ⟨e,hj⟩=>by
    subst e
    obtain⟨l1,l2⟩:=hlen j hj
    unfold dU fE
    dsimp only
    rw[bR (cm hs).2,hk,bz,bz]
    by_cases hlt:j<k
    · obtain⟨row,r1,r2,jj,t1,t2⟩:=hfacts j hlt
      rw[decide_eq_true (show(j:Int)<(k:Int) by omega),cond_true,hr,bz,r1,bz,hin]
      rw[jZ hs (x:=(i:Int)) (o:=(j:Int)) (by omega) (by omega) (by omega) (by omega),hm,bz,r2,bz,xg hR,bz,← hf,lL,bz,oq _ (by omega),bz]
      dsimp only
      rw[app1 (by omega) rfl,bz,wr' (by omega) (by omega)]
      exact⟨_,rfl,hlt,by rfl,by omega⟩
    · have:j=k:=by omega
      subst this
      rw[decide_eq_false (show ¬((j:Nat):Int)<(j:Int) by omega),cond_false]
      exact⟨_,rfl,_,rfl⟩) (2 ^ 64) 0 (F,[],0) (by omega) ⟨rfl,Nat.zero_le _⟩ (by omega)
   match o,w2 with
   | .inr s,⟨z,e⟩=>exact⟨z,by rw[w1,e]⟩
 · obtain⟨s,h1,h2⟩:=bL (f:=gF p d g P v y u (m:Int)) (λj s=>s=cC f F j) k (s:=(F,[])) rfl (λj s hj e=>by
    subst e
    obtain⟨l1,l2⟩:=hlen j (by omega)
    obtain⟨row,r1,r2,jj,t1,t2⟩:=hfacts j hj
    have hb:j * m<=4 * 4:=Nat.mul_le_mul (by omega) (by omega)
    have e:(j:Int) * (m:Int)=((j * m:Nat):Int):=by simp
    refine⟨cC f F (j+1),?_,rfl⟩
    unfold gF
    rw[r1,bz,di hs,hm,bz,hin,wr' (z:=(j:Int) * (m:Int)) (by omega) (by omega),wr' (z:=(j:Int) * (m:Int)+(i:Int)) (by omega) (by omega),r2,bz,hr,bz,xH hR t1,bz,bz,bC,t2,bz,mg,bz,oq _ (by omega),bz]
    dsimp only
    rw[app1 (by omega) rfl,bz]
    rfl)
   rw[h1,h2]
structure Ctr (N m k:Nat) (Q:Int->Prop) (F:List Int) (i:Nat) (In:List Int) (Nx:List (List Int)):Prop where
 il:i<=F.length
 nm:Names N F
 all:∀x∈F,Q x
 zero:F[0]? =some 0
 inl:In.length=i
 nxl:Nx.length=i
 inr:∀x∈In,0<=x/\x<(m:Int)
 nxr:∀row∈Nx,row.length=k/\∀x∈row,0<=x/\x<(F.length:Int)
theorem rj (h0:wB W 0=true):∃s:List Int×Int×List Int×List (List Int),bI (dm p (d,true) (g,P,true) ⟨wn,pk⟩) (2 ^ 64) ([0],0,[],[])=some (.inr s)/\bI (gO p d g P ⟨wn,pk⟩) (2 ^ 64) ([0],0,[],[])=some (.inr s)/\Ctr P.length m k (λx=>wB W x=true/\atP P x<(n:Int)) s.1 s.1.length s.2.2.1 s.2.2.2:=by
 obtain⟨_,_,_,hP256,hP1,hpk⟩:=h.len
 have hm1:=h.m1
 have hm4:=h.m4
 have hk1:=h.k1
 have hk4:=h.k4
 have hn48:=h.n48
 obtain⟨sh1,sh2⟩:=dJ (cm hs).2
 rw[hk]at sh2
 have hrk:rng (k:Int)=some ():=by unfold rng;rw[if_pos (by omega)]
 have hk0:yn ((k:Int)-0)=k:=by omega
 have hnz:nz (m:Int)=some ():=by unfold nz;rw[if_neg (by omega)]
 have hz0:atP P 0<(n:Int):=by
  have hz:=h.rg.game.zero
  rw[ff (v:=⟨0,firstR d.Pairs.length⟩) (by rw[show(0:Int)=((0:Nat):Int) from rfl,bC];exact hz)]
  have:=h.n1
  show(0:Int)<_
  omega
 obtain⟨o,t,w1,w2,w3⟩:=mV (f:=dm p (d,true) (g,P,true) ⟨wn,pk⟩) (g:=gO p d g P ⟨wn,pk⟩) (λs t=>s=t/\∃i:Nat,s.2.1=(i:Int)/\Ctr P.length m k (λx=>wB W x=true/\atP P x<(n:Int)) s.1 i s.2.2.1 s.2.2.2) (λs=>300-s.2.1.toNat) (λ_ _=>False)
  (λs t=>s=t/\Ctr P.length m k (λx=>wB W x=true/\atP P x<(n:Int)) s.1 s.1.length s.2.2.1 s.2.2.2) (λs t ⟨e,i,hi,hC⟩=>by
  subst e
  obtain⟨F,z,In,Nx⟩:=s
  dsimp only at hi hC
  subst hi
  have hFl:=hC.nm.len
  unfold dm gO
  dsimp only
  by_cases hlt:i<F.length
  · have hx:F[i]? =some F[i]:=bB hlt
    generalize F[i]=x at hx
    have hxm:=it hx
    have hxX:Xn P.length x:=hC.nm.2 x hxm
    obtain⟨hxw,hxa⟩:=hC.all x hxm
    obtain⟨v,hv,v0,v1⟩:=h.place hxX
    rw[ff hv]at hxa
    obtain⟨hown,q,rx,hvq,hq,hrx,hrow,_⟩:=h.state hv hxa
    obtain⟨y,hy,hyX,hye,hyw⟩:=h.mine hxX (by rw[hown,hxw])
    obtain⟨_,ii,hii,hya⟩:=hrow y ((ph hrx).1 hye)
    obtain⟨u,hu,_,_⟩:=h.place hyX
    obtain⟨hyo,r,hr,hR1,hR2⟩:=h.mid hyX hq hii hya
    have hua:u.At=((n+(q * m+ii):Nat):Int):=by rw[← ff hu];exact hya
    have hlt2:=oQ (n:=n) hq hii
    have hnm:n * m<=48 * 4:=Nat.mul_le_mul hn48 hm4
    have hin:Int.tmod (IntKind.i64.wrap (u.At-(d.Next.length:Int))) (m:Int)=(ii:Int):=by
     rw[hua,h.dl,wr' (by omega) (by omega),show((n+(q * m+ii):Nat):Int)-(n:Int)=((q * m+ii:Nat):Int) by omega,Int.tmod_eq_emod_of_nonneg (by omega)]
     have:(q * m+ii) % m=ii:=by
      rw[Nat.mul_comm,Nat.mul_add_mod]
      exact Nat.mod_eq_of_lt hii
     omega
    obtain⟨⟨zz,c1⟩,c2⟩:=tg hs h hm hk (F:=F) (v:=v) (u:=u) (y:=y) (by omega) hq hii hvq hr (λz hz=>(hR1 z hz).1) hR2 hin
    have hN:=qh (N:=P.length) (F:=F) (Q:=λx=>wB W x=true/\atP P x<(n:Int)) hC.nm hC.all (f:=λo=>tgt P r (tab d.Next q ((o * m+ii:Nat):Int))) (c:=k) (λj hj=>by
     obtain⟨t1,t2,_⟩:=rI (hR2 j hj)
     obtain⟨t3,_⟩:=hR1 _ t1
     obtain⟨_,_,_,_,b2⟩:=h.cellAt hq hii hj
     refine⟨t3.1,t3.2,?_,by rw[t2];exact b2⟩
     rw[h.yours hyX (by rw[hyo,hyw,hxw];simp) ((ph hr).2 t1) t3,hyw,hxw]) k (Nat.le_refl _)
    generalize cC (λo=>tgt P r (tab d.Next q ((o * m+ii:Nat):Int))) F k=G at *
    have e1:=hC.inl
    have e2:=hC.nxl
    rw[decide_eq_true (show(i:Int)<(F.length:Int) by omega),cond_true,cond_true,bC,hx,bz,bz,hv,bz,bz,bz,bz,hy,bz,bz,hu,bz,bz]
    unfold cH
    rw[bR (cm hs).1,di hs,hm,bz,bz,bz,hnz,bz,bz,sh1,bz,sh2,hrk,bz,hk0,c1,c2,bz,bz,bE,bE,hin]
    dsimp only
    rw[app1 (xs:=In) (by omega) rfl,bz,bz,app1 (xs:=Nx) (by omega) rfl,bz,bz,wr' (by omega) (by omega)]
    have hl1:=hN.len
    refine⟨_,_,rfl,rfl,⟨rfl,i+1,by dsimp only;omega,⟨by dsimp only;omega,hN.nm,hN.all,hN.pre 0 _ hC.zero,by dsimp only;rw[yq,e1];rfl,by dsimp only;rw[yq,e2];rfl,λa ha=>?_,λrow hrow'=>?_⟩⟩,?_⟩
    · rcases yz.1 ha with ha | ha
      · exact hC.inr a ha
      · rw[yr.1 ha];omega
    · rcases yz.1 hrow' with hr' | hr'
      · obtain⟨b1,b2⟩:=hC.nxr row hr'
        exact⟨b1,λx hx=>by have:=b2 x hx;dsimp only;omega⟩
      · rw[yr.1 hr']
        exact⟨hN.rl,hN.rin⟩
    · dsimp only;omega
  · have hil:=hC.il
    have:i=F.length:=by omega
    subst this
    rw[decide_eq_false (show ¬((F.length:Nat):Int)<(F.length:Int) by omega),cond_false,cond_false]
    exact⟨_,_,rfl,rfl,rfl,hC⟩) (2 ^ 64) (2 ^ 64) ([0],0,[],[]) ([0],0,[],[]) (by dsimp only;omega) (by dsimp only;omega) ⟨rfl,0,rfl,⟨by simp,⟨by simp,λx hx=>by rw[yr.1 hx];omega⟩,λx hx=>by rw[yr.1 hx];exact⟨h0,hz0⟩,rfl,rfl,rfl,λx hx=>(by cases hx),λx hx=>(by cases hx)⟩⟩
 match o,t,w3 with
 | .inr s,.inr t,⟨e,hC⟩=>
  subst e
  exact⟨s,w1,w2,hC⟩
end
end Go.Proofs.YtpcjbkgbnoocaaaGreat
set_option linter.unusedVariables false
set_option linter.unusedSimpArgs false
namespace Go.Proofs.YtpcjbkgbnoocaaaGreat
open Go Go.Wk Go.Proofs
def noRiv:Rival:=⟨[],[]⟩
theorem pQ (p:Sig){cs:List Clause}(hb:∀c∈cs,Clause.bd c):(gj p cs=some (noRiv,false)/\mA p cs=some (noRiv,false)) \/
 ∃(N m k:Nat) (F In:List Int) (Nx:List (List Int)) (Q:Int->Prop),Ctr N m k Q F F.length In Nx/\N<=256/\sigOk p=true/\pw p.In=(m:Int)/\pw p.Out=(k:Int)/\gj p cs=some (⟨In,Nx⟩,true)/\mA p cs=some (⟨In,Nx⟩,true):=by
 unfold gj mA
 rcases setup p hb with ⟨h1,h2⟩ | ⟨d,A,h1,h2,S2,⟨r1,r2⟩ | ⟨n,m,k,P,g,W,pk,S⟩⟩
 · left
   simp only[h1,h2,bz,vA,vk]
   exact⟨rfl,rfl⟩
 · left
   simp only[h1,h2,S2.sC,S2.iC,r1,r2,bz,yp,cond_false]
   exact⟨rfl,rfl⟩
 · simp only[h1,h2,S.sC,S.iC,S.sR,S.iR,S.iW,S.won,S.sS,bz,yp,cond_false]
   cases hw:wB W 0 with
   | false=>
    left
    exact⟨rfl,rfl⟩
   | true=>
    right
    obtain⟨s,w1,w2,hC⟩:=rj (wn:=wonL g.Prio.length W) S.sig S.cx S.im S.ok hw
    obtain⟨_,_,_,l4,_⟩:=S.cx.len
    refine⟨P.length,m,k,s.1,s.2.2.1,s.2.2.2,_,hC,l4,S.sig,S.im,S.ok,?_,?_⟩
    · show(bu (bI (dm p (d,true) (g,P,true) ⟨wonL g.Prio.length W,pk⟩) (2 ^ 64) ([0],0,[],[])) _)=_
      rw[w1];rfl
    · show(bu (mj p d g P) _)=_
      unfold mj
      rw[S.iS,bz,w2];rfl
end Go.Proofs.YtpcjbkgbnoocaaaGreat
set_option linter.unusedVariables false
set_option linter.unusedSimpArgs false
namespace Go.Proofs.YtpcjbkgbnoocaaaGreat
open Go Go.Wk Go.Proofs
section
variable {xs:List Pair}{n:Int}(h0:0<=n) (h1:n<=256) (hb:∀x∈xs,x.Ask.length<=1000000000/\x.Give.length<=1000000000)
include h0 h1 hb
omit h0 h1 in
theorem qa:nB xs n=some (pairsOk xs n):=by
 unfold nB pairsOk
 rw[c8 (f:=ku xs n) (r:=false) (pairOk n) (xs:=xs) rfl (λi x hx=>by
  obtain⟨b1,b2⟩:=hb x (it hx)
  unfold ku pairOk
  rw[bC,hx]
  simp only[bz,jG b1,jG b2]
  cases cN n x.Ask <;> cases cN n x.Give <;> rfl)]
 cases xs.all (pairOk n) <;> simp[aft]
end
end Go.Proofs.YtpcjbkgbnoocaaaGreat
set_option linter.unusedVariables false
set_option linter.unusedSimpArgs false
namespace Go.Proofs.YtpcjbkgbnoocaaaGreat
open Go Go.Wk Go.Proofs
section
variable {p:Sig}{d:Det}(hs:sigOk p=true) (hb:∀x∈d.Pairs,x.Ask.length<=1000000000/\x.Give.length<=1000000000)
include hs hb
theorem sq:re p d=some (detOk p d):=by
 unfold re detOk
 simp only[ou,orE,bz]
 rw[← Bool.not_and]
 cases h1:(decide (1<=(d.Next.length:Int))&&decide ((d.Next.length:Int)<=48)) with
 | false=>rfl
 | true=>
  simp only[yo,decide_eq_true_eq]at h1
  rw[c8 (f:=nA p d) (r:=false) (detRow p d.Next.length) (xs:=d.Next) rfl (λi row hx=>by
   unfold nA detRow
   rw[bC,hx]
   simp only[bz,o6 hs,dD,bne]
   cases((row.length:Int)==ltd p) <;> cases row.all (inR d.Next.length) <;> rfl),qa hb]
  simp only[yp,cond_false,bz,Bool.true_and]
  cases d.Next.all (detRow p d.Next.length) <;> cases pairsOk d.Pairs d.Next.length <;> rfl
end
end Go.Proofs.YtpcjbkgbnoocaaaGreat
