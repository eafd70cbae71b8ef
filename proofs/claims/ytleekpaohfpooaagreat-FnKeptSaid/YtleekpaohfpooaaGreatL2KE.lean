/- Picks that win: both sides find the same. -/
import Derived.Test.YtleekpaohfpooaaGreatL1KE
import Derived.Test.YtleekpaohfpooaaGreatL0KE
set_option linter.unusedVariables false
set_option linter.unusedSimpArgs false
open Option renaming bind → bC, bind_some → bE
open List renaming getElem?_eq_getElem → gs, getElem?_eq_some_iff → hV, replicate → sh, mem_of_getElem? → yB, getElem?_replicate → yF, length_append → yK, mem_singleton → yM, length_cons → yO, length_take → yP, length_nil → yQ, mem_append → yT, take_add_one → yU, length_map → yW
open Int renaming toNat → yG
open Bool renaming and_eq_true → yH, not_true → yJ, eq_iff_iff → yR
namespace Go.Proofs.YtleekpaohfpooaaGreat
open Go Go.Wk Go.Proofs
open Classical
theorem tc {n:Nat}{W:Int->Prop}(hn:n<=256) (q:Bool):∃B,iE (wonL n W) (b2i q)=some B/\B.length=n/\In B=Par.Rg (Xn n) (wB W) q:=by
 have hl:=nU n W
 unfold iE
 rw[hl,di (by omega) rfl,bE]
 obtain⟨s,h1,h2,h3⟩:=fillB (f:=kD (wonL n W) (b2i q)) (Par.Rg (Xn n) (wB W) q) n (s0:=sh n false) (by simp) (λj s hj hs=>by
  have hx:Xn n (j:Int):=⟨by omega,by omega⟩
  unfold kD
  rw[jP hx,bE,mW]
  have:(wB W (j:Int)==q)=decide (Par.Rg (Xn n) (wB W) q (j:Int)):=by
   rw[yR,decide_eq_true_iff]
   unfold Par.Rg
   simp[hx]
  rw[this]) (λv hv=>hv.1)
 rw[h1,bE,bJ]
 exact⟨s,rfl,h2,funext λv=>propext (h3 v)⟩
theorem vr {n:Nat}{W:Int->Prop}(hn:n<=256) (p:List Int) (q:Bool):∃L,jQ ⟨wonL n W,p⟩ (b2i q)=some L/\L.length<=n/\(∀v,v∈L↔Par.Rg (Xn n) (wB W) q v):=by
 have hl:=nU n W
 unfold jQ
 dsimp only
 rw[hl,decide_eq_false (by omega),cond_false]
 obtain⟨s,h1,h2,h3⟩:=bX (f:=go ⟨wonL n W,p⟩ (b2i q)) (λj (s:List Int)=>s.length<=j/\∀v,v∈s↔Par.Rg (Xn n) (wB W) q v/\v<j) n (s:=[]) ⟨by simp,λv=>⟨λh=>absurd h (by simp),λh=>by have:=h.1.1.1;omega⟩⟩ (λj s hj ⟨q1,q2⟩=>by
  have hx:Xn n (j:Int):=⟨by omega,by omega⟩
  unfold go
  dsimp only
  rw[jP hx,bE,mW,app1 (by omega) rfl]
  cases hc:(wB W (j:Int)==q) with
  | true=>
   have hc:wB W (j:Int)=q:=by simpa using hc
   refine⟨_,rfl,by simp;omega,λv=>?_⟩
   rw[yT,q2,yM]
   constructor
   · rintro(⟨h1,h2⟩ | rfl)
     · exact⟨h1,by omega⟩
     · exact⟨⟨hx,hc⟩,by omega⟩
   · rintro⟨h1,h2⟩
     by_cases e:v=j
     · exact .inr e
     · exact .inl ⟨h1,by omega⟩
  | false=>
   have hc:¬wB W (j:Int)=q:=by simpa using hc
   refine⟨_,rfl,by omega,λv=>?_⟩
   rw[q2]
   constructor
   · rintro⟨h1,h2⟩
     exact⟨h1,by omega⟩
   · rintro⟨h1,h2⟩
     have:v≠j:=λe=>hc (by rw[← e];exact h1.2)
     exact⟨h1,by omega⟩)
 rw[h1,bE,bJ]
 exact⟨s,rfl,h2,λv=>by rw[h3];exact⟨λh=>h.1,λh=>⟨h,h.1.2⟩⟩⟩
section
variable {g:Parity}{n:Nat}(hp:cA g=true) (hn:n=g.Prio.length){W:Int->Prop}(hW:Par.Sol (gI g) (Xn n) false W)
include hp hn hW
omit hW in
theorem xw {P:List (List Int)}(hP:PrevT g.Arena.Next n n P){k:List Int}(hk:k.length=n) (hI:Par.PInv (gI g) (Xn n) (wB W) (pkL k)){v:Int}(hv:Xn n v) (ho:(gI g).own v=wB W v){row:List Int}(hr:idx g.Arena.Next v=some row){i:Nat}{u:Int}(h1:row[i]? =some u)
 (h2:wB W u=wB W v/\Par.Dom (Par.pickG (gI g) (Par.updF (pkL k) v u)) (Par.Rg (Xn n) (wB W) (wB W v)) (wB W v) (Par.Rg (Xn n) (wB W) (wB W v)))
 (h3:∀(j:Nat) y,j<i->row[j]? =some y->¬(wB W y=wB W v/\Par.Dom (Par.pickG (gI g) (Par.updF (pkL k) v y)) (Par.Rg (Xn n) (wB W) (wB W v)) (wB W v) (Par.Rg (Xn n) (wB W) (wB W v))))
 {B:List Bool} (hB:B.length=n) (hBR:In B=Par.Rg (Xn n) (wB W) (wB W v)):
 ∃k',pq ⟨g.Arena.Owner,g.Prio,g.Arena.Next,P,k⟩ B v=some (u,k')/\k'.length=n/\pkL k'=Par.updF (pkL k) v u:=by
 have h:=GOk.of hp
 rw[← hn]at h
 have hnd:Par.NoDead (gI g) (Xn n):=lE h (mN hp)
 obtain⟨r1,r2,r3⟩:=h.row v row hr
 have hil:=(hV.1 h1).1
 have hn256:=h.n256
 unfold pq
 obtain⟨o,w1,w2⟩:=cB (f:=mj ⟨g.Arena.Owner,g.Prio,g.Arena.Next,P,k⟩ B v) (λj (t:Int×List Int)=>t.1=(j:Int)/\j<=i/\t.2.length=n/\∃z,pkL t.2=Par.updF (pkL k) v z) (λ(t:Int×List Int)=>t.1=u/\t.2.length=n/\pkL t.2=Par.updF (pkL k) v u) (λ_=>False) i (λj t ⟨a1,a2,a3,z,a4⟩=>by
  obtain⟨j',t⟩:=t
  dsimp only at a1 a3 a4
  subst a1
  have hjl:j<row.length:=by omega
  have hy:row[j]? =some row[j]:=gs hjl
  generalize row[j]=y at hy
  obtain⟨y0,y1⟩:=r3 y (yB hy)
  have hyX:Xn n y:=⟨y0,y1⟩
  have hyE:(gI g).E v y:=by show y∈cv g.Arena v;rw[dA hr];exact yB hy
  unfold mj
  dsimp only
  rw[hr,bE,decide_eq_true (show(j:Int)<(row.length:Int) by omega),cond_true,bE,bH,hy,bE,fF (B:=B) y0 (by omega),bE]
  have hBy:decide (In B y)=(wB W y==wB W v):=by
   rw[yR,decide_eq_true_iff,hBR]
   unfold Par.Rg
   simp[hyX]
  have hw:IntKind.i64.wrap ((j:Int)+1)=((j+1:Nat):Int):=by rw[wr' (by omega) (by omega)];omega
  rw[hBy]
  cases hc:(wB W y==wB W v) with
  | false=>
   simp only[Bool.not_false,cond_true,hw]
   have hne:¬wB W y=wB W v:=by simpa using hc
   have:j≠i:=λe=>by subst e;rw[h1]at hy;cases hy;exact hne h2.1
   exact⟨_,rfl,by omega,rfl,by omega,a3,z,a4⟩
  | true=>
   have hwy:wB W y=wB W v:=by simpa using hc
   obtain⟨old,hold⟩:=cj (xs:=t) (i:=v) hv.1 (by have:=hv.2;omega)
   obtain⟨t',ht',htl⟩:=cF (xs:=t) (i:=v) y hv.1 (by have:=hv.2;omega)
   have hpk:pkL t'=Par.updF (pkL k) v y:=by rw[ph ht',a4,oF]
   have htn:t'.length=n:=by omega
   have hg:gS ⟨g.Arena.Owner,g.Prio,g.Arena.Next,P,t'⟩=Par.pickG (gI g) (Par.updF (pkL k) v y):=by rw[wC h P htn,hpk]
   have hN:Par.NoDead (gS ⟨g.Arena.Owner,g.Prio,g.Arena.Next,P,t'⟩) (In B):=by
    rw[hg,hBR]
    exact hI.noDead hnd hyE hyX hwy _
   have hh:=wS (h.wfS hP htn) h.pri hB hN (wB W v)
   rw[hg,hBR]at hh
   simp only[yJ,cond_false]
   rw[hold,bE,ht',bE,ui h hv,ho,bE,hh,bE]
   by_cases hd:Par.Dom (Par.pickG (gI g) (Par.updF (pkL k) v y)) (Par.Rg (Xn n) (wB W) (wB W v)) (wB W v) (Par.Rg (Xn n) (wB W) (wB W v))
   · rw[decide_eq_true hd,cond_true]
     have:¬j<i:=λhlt=>h3 j y hlt hy ⟨hwy,hd⟩
     have:j=i:=by omega
     subst this
     rw[h1]at hy;cases hy
     exact⟨_,rfl,rfl,htn,hpk⟩
   · rw[decide_eq_false hd,cond_false,hw]
     have:j≠i:=λe=>by subst e;rw[h1]at hy;cases hy;exact hd h2.2
     exact⟨_,rfl,by omega,rfl,by omega,htn,y,hpk⟩) (2 ^ 64) 0 (0,k) (by omega) ⟨rfl,by omega,hk,pkL k v,(qT rfl).symm⟩ (by omega)
 match o,w2 with
 | .inl t,w2=>
  obtain⟨b1,b2,b3⟩:=w2
  obtain⟨t1,t2⟩:=t
  dsimp only at b1 b2 b3
  subst b1
  rw[w1,bE,wO]
  exact⟨t2,rfl,b2,b3⟩
omit hW in
theorem xU {k:List Int}(hk:k.length=n) (hI:Par.PInv (gI g) (Xn n) (wB W) (pkL k)){v:Int}(hv:Xn n v) (hkv:pkL k v= -1){row:List Int}(hr:idx g.Arena.Next v=some row){i:Nat}{u:Int}(h1:row[i]? =some u)
 (h2:wB W u=wB W v/\Par.Dom (Par.pickG (gI g) (Par.updF (pkL k) v u)) (Par.Rg (Xn n) (wB W) (wB W v)) (wB W v) (Par.Rg (Xn n) (wB W) (wB W v)))
 (h3:∀(j:Nat) y,j<i->row[j]? =some y->¬(wB W y=wB W v/\Par.Dom (Par.pickG (gI g) (Par.updF (pkL k) v y)) (Par.Rg (Xn n) (wB W) (wB W v)) (wB W v) (Par.Rg (Xn n) (wB W) (wB W v))))
 {L:List Int} (hL:∀v',v'∈L↔Par.Rg (Xn n) (wB W) (wB W v) v'):
 ∃k',cntM (eV g (wonL n W) v L row) row.length 0 k=some (.inr k')/\k'.length=n/\pkL k'=Par.updF (pkL k) v u:=by
 have h:=GOk.of hp
 rw[← hn]at h
 have hnd:Par.NoDead (gI g) (Xn n):=lE h (mN hp)
 obtain⟨r1,r2,r3⟩:=h.row v row hr
 have hil:=(hV.1 h1).1
 have hn256:=h.n256
 have hLe:(λv'=>v'∈L)=Par.Rg (Xn n) (wB W) (wB W v):=funext λv'=>propext (hL v')
 obtain⟨o,w1,w2⟩:=pB (f:=eV g (wonL n W) v L row) (λj (t:List Int)=>j<=i/\t.length=n/\pkL t=pkL k) (λ_=>False) (λ(t:List Int)=>t.length=n/\pkL t=Par.updF (pkL k) v u) row.length (s:=k) ⟨by omega,hk,rfl⟩ (λj t hjl ⟨a2,a3,a4⟩=>by
  have hy:row[j]? =some row[j]:=gs hjl
  generalize row[j]=y at hy
  obtain⟨y0,y1⟩:=r3 y (yB hy)
  have hyX:Xn n y:=⟨y0,y1⟩
  have hyE:(gI g).E v y:=by show y∈cv g.Arena v;rw[dA hr];exact yB hy
  unfold eV
  rw[bH,hy,bE,jP hyX,bE,jP hv,bE]
  have hbne:(b2i (wB W y) !=b2i (wB W v))= !(wB W y==wB W v):=by unfold bne;rw[mW]
  rw[hbne]
  cases hc:(wB W y==wB W v) with
  | false=>
   simp only[Bool.not_false,cond_true]
   have hne:¬wB W y=wB W v:=by simpa using hc
   have:j≠i:=λe=>by subst e;rw[h1]at hy;cases hy;exact hne h2.1
   exact⟨_,rfl,by omega,a3,a4⟩
  | true=>
   have hwy:wB W y=wB W v:=by simpa using hc
   obtain⟨old,hold⟩:=cj (xs:=t) (i:=v) hv.1 (by have:=hv.2;omega)
   obtain⟨t',ht',htl⟩:=cF (xs:=t) (i:=v) y hv.1 (by have:=hv.2;omega)
   obtain⟨old',hold'⟩:=cj (xs:=t') (i:=v) hv.1 (by have:=hv.2;omega)
   obtain⟨t'',ht'',htl'⟩:=cF (xs:=t') (i:=v) (-1) hv.1 (by have:=hv.2;omega)
   have hpk:pkL t'=Par.updF (pkL k) v y:=by rw[ph ht',a4]
   have hpk':pkL t''=pkL k:=by rw[ph ht'',hpk,oF,qT hkv]
   have htn:t'.length=n:=by omega
   obtain⟨g',e1,e2,e3⟩:=xn hp hn htn (λx hx=>by
    rw[hpk]at hx ⊢
    unfold Par.updF at hx ⊢
    by_cases e:x=v
    · rw[if_pos e];subst e;exact hyE
    · rw[if_neg e]at hx ⊢
      exact(hI.pick x hx).2.2.1)
   rw[hpk]at e3
   have hN:Par.NoDead (gI g') (λv'=>v'∈L):=by
    rw[e3,hLe]
    exact hI.noDead hnd hyE hyX hwy _
   obtain⟨E,O,W',f1,f2,f3,f4,f5,f6⟩:=td e2 (L:=L) (λv' hv'=>((hL v').1 hv').1) hN
   rw[e3,hLe]at f2
   have hh:=Par.hold_iff (q:=wB W v) f2
   simp only[yJ,cond_false]
   rw[hold,bE,ht',bE,e1,bE,f1,bE,bE]
   dsimp only
   have key:(bif !wB W v then((O.length:Int)==0) else((E.length:Int)==0))=decide (Par.Dom (Par.pickG (gI g) (Par.updF (pkL k) v y)) (Par.Rg (Xn n) (wB W) (wB W v)) (wB W v) (Par.Rg (Xn n) (wB W) (wB W v))):=by
    rw[yR,decide_eq_true_iff,← hh]
    cases hq:wB W v with
    | false=>
     simp only[Bool.not_false,cond_true]
     rw[show(((O.length:Int)==0)=true)↔O=[] from by simp]
     constructor
     · intro e x hx
       refine⟨λ_=>trivial,λ_=>?_⟩
       apply Classical.byContradiction
       intro hn'
       have:=(f4 x).2 ⟨(hL x).2 (by rw[hq];exact hx),hn'⟩
       rw[e]at this;cases this
     · intro ha
       cases hO:O with
       | nil=>rfl
       | cons x xs=>
        obtain⟨c1,c2⟩:=(f4 x).1 (by rw[hO];exact List.mem_cons_self ..)
        exact absurd ((ha x (by have:=(hL x).1 c1;rwa [hq]at this)).2 trivial) c2
    | true=>
     simp only[yJ,cond_false]
     rw[show(((E.length:Int)==0)=true)↔E=[] from by simp]
     constructor
     · intro e x hx
       refine⟨λhw'=>?_,λh'=>absurd h' (by decide)⟩
       have:=(f3 x).2 hw'
       rw[e]at this;cases this
     · intro ha
       cases hE:E with
       | nil=>rfl
       | cons x xs=>
        have c1:=(f3 x).1 (by rw[hE];exact List.mem_cons_self ..)
        have:=(ha x (by have:=f2.sub x c1;rwa [hq]at this)).1 c1
        cases this
   have e0:∀(a b q:Bool) {β:Type} (F:Bool->Option β),(bC (bif (b2i q==0) then some a else some false) λp88=>bC (bif p88 then some true else bC (some (b2i q)) λx92=>bC (bif (x92==1) then some b else some false) λp99=>some p99) F)=F (bif !q then a else b):=by
    intro a b q β F
    cases q <;> cases a <;> cases b <;> rfl
   rw[e0,key]
   by_cases hd:Par.Dom (Par.pickG (gI g) (Par.updF (pkL k) v y)) (Par.Rg (Xn n) (wB W) (wB W v)) (wB W v) (Par.Rg (Xn n) (wB W) (wB W v))
   · rw[decide_eq_true hd,cond_true]
     have:¬j<i:=λhlt=>h3 j y hlt hy ⟨hwy,hd⟩
     have:j=i:=by omega
     subst this
     rw[h1]at hy;cases hy
     exact⟨_,rfl,htn,hpk⟩
   · rw[decide_eq_false hd,cond_false,hold',bE,ht'',bE]
     have:j≠i:=λe=>by subst e;rw[h1]at hy;cases hy;exact hd h2.2
     exact⟨_,rfl,by omega,by omega,hpk'⟩)
 match o,w2 with
 | .inr t,w2=>
  rcases w2 with ⟨hle,_⟩ | w2
  · omega
  · exact⟨t,w1,w2.1,w2.2⟩
omit hp hn hW in
theorem nr {n:Nat}(v:Int):pkL (sh n (-1)) v= -1:=by
 unfold pkL
 cases h:idx (sh n (-1:Int)) v with
 | none=>rfl
 | some x=>
  obtain⟨v0,v1⟩:=cq h
  rw[cE v0,yF]at h
  split at h
  · cases h;rfl
  · cases h
omit hW in
theorem tT {A:List Int}(hA:ir g=some A) (hAl:A.length<=256):nu g (sh n (-1))=some true:=by
 have h:=GOk.of hp
 rw[← hn]at h
 obtain⟨h1,h2,h3,h4,h5⟩:=dp hp
 have hO:pT g (sh n (-1))=some (g,true):=by
  unfold pT
  rw[kv,hp,bE]
  have hP:oy g (sh n (-1))=some true:=by
   unfold oy
   rw[List.length_replicate,← hn]
   have:=cP (f:=lA g (sh n (-1))) (r:=false) (λ_:Int=>true) (xs:=sh n (-1)) (n:=n) (by simp) (λi x hx=>by
    unfold lA
    have hx':x= -1:=by
     rw[yF]at hx
     split at hx
     · cases hx;rfl
     · cases hx
    rw[bH,hx,bE,hx'];rfl)
   rw[this]
   simp only[bne_self_eq_false,cond_false,List.all_eq_true,implies_true,if_true,bE,bJ]
  rw[hP]
  simp only[yJ,cond_false,bE]
  rw[uc (by have:=h.lo;have:=h.n256;omega),bE,uc (by omega),bE,List.length_replicate]
  obtain⟨s,e1,e2⟩:=bX (f:=lT g (sh n (-1))) (λj (s:List (List Int))=>s=g.Arena.Next.take j) n (s:=[]) rfl (λj s hj hs=>by
   subst hs
   have hx:g.Arena.Next[j]? =some (g.Arena.Next[j]'(by have:=h.ln;omega)):=gs (by have:=h.ln;omega)
   generalize g.Arena.Next[j]'(by have:=h.ln;omega)=row at hx
   obtain⟨r1,_,_⟩:=h.row (j:Int) row (by rw[bH];exact hx)
   have hk:idx (sh n (-1:Int)) (j:Int)=some (-1):=by rw[bH,yF,if_pos hj]
   unfold lT
   rw[bH,hx,bE,uc (by omega),bE,hk,bE]
   simp only[show decide ((0:Int)<= -1)=false from rfl,cond_false,bE]
   rw[app1 (by rw[yP];omega) rfl,bE]
   refine⟨_,rfl,?_⟩
   rw[yU,hx];rfl)
  rw[e1,e2,bE,bJ,List.take_of_length_le (by have:=h.ln;omega)]
 unfold nu
 rw[hO,bE]
 dsimp only
 rw[cond_true,hA,bE,bE]
 have hS:qn A A=some true:=by
  unfold qn
  have:=cP (f:=mr A A) (r:=false) (λ_:Int=>true) (xs:=A) (n:=A.length) rfl (λi x hx=>by
   unfold mr
   rw[bH,hx,bE,bE]
   simp)
  rw[this]
  simp only[bne_self_eq_false,cond_false,List.all_eq_true,implies_true,if_true,bE,bJ]
 rw[hS];rfl
theorem tG (hA:ir g=some (wonL n W)):∃k,nv g (sh n (-1))=some (⟨wonL n W,k⟩,true)/\jY g (sh n (-1)) (wonL n W)=some ⟨wonL n W,k⟩/\k.length=n/\(∀v x,idx k v=some x->x= -1\/0<=x)/\Par.Ans (gI g) (Xn n) (wB W) (pkL k):=by
 have h:=GOk.of hp
 rw[← hn]at h
 have hn256:=h.n256
 have hwl:=nU n W
 obtain⟨P,p1,p2⟩:=rX h
 obtain⟨B0,c1,c2,c3⟩:=tc (W:=W) hn256 false
 obtain⟨B1,d1,d2,d3⟩:=tc (W:=W) hn256 true
 have c1:iE (wonL n W) 0=some B0:=c1
 have d1:iE (wonL n W) 1=some B1:=d1
 unfold nv jY
 rw[tT hp hn hA (by omega),bE,hA,p1,List.length_replicate,appL (by simp;omega) rfl]
 simp only[yJ,cond_false,bE,List.nil_append,List.length_replicate,hwl]
 obtain⟨s0,e1,e2⟩:=bX (f:=kC g (sh n (-1)) (wonL n W)) (λj (s:List Int)=>s=sh n (-1)) n (s:=sh n (-1)) rfl (λj s hj hs=>by
  subst hs
  have hk:idx (sh n (-1:Int)) (j:Int)=some (-1):=by rw[bH,yF,if_pos hj]
  unfold kC
  rw[hk]
  simp only[bE,show((-1:Int) != -1)=false from rfl,cond_false]
  rw[sD (by simp;omega),bE]
  refine⟨_,rfl,?_⟩
  apply List.ext_getElem?
  intro i
  rw[List.getElem?_set]
  simp only[yF,List.length_replicate]
  split
  · rename_i e;subst e;rw[if_pos hj]
  · rfl)
 subst e2
 rw[e1,bE,bJ,c1,bE,d1,bE]
 obtain⟨s,t,f1,f2,rfl,f3,f4,f5,f6,f7⟩:=rJ (f:=kB g (wonL n W) ⟨g.Arena.Owner,g.Prio,g.Arena.Next,P,sh n (-1)⟩ B0 B1) (g:=gj g (wonL n W)) (λj (s t:List Int)=>s=t/\s.length=n/\Par.PInv (gI g) (Xn n) (wB W) (pkL s)/\(∀i:Nat,j<=i->pkL s i= -1)/\(∀v,Xn n v->v<j->(gI g).own v=wB W v->0<=pkL s v)/\(∀v x,idx s v=some x->x= -1\/0<=x)) n (s:=sh n (-1)) (t:=sh n (-1)) ⟨rfl,by simp,Par.PInv.start hW (λv _=>vQ) (λv=>by rw[nr];decide),λi _=>nr _,λv hv hj=>by have:=hv.1;omega,λv x hx=> .inl (by rw[← oD hx];exact nr v)⟩ (λj s t hj ⟨e,g1,g2,g3,g4,g5⟩=>by
  subst e
  have hv:Xn n (j:Int):=⟨by omega,by omega⟩
  have hkj:=mO g1 hv.1 hv.2
  rw[g3 j (Nat.le_refl j)]at hkj
  unfold kB gj
  rw[hkj,jP hv,ui h hv]
  simp only[bE,show decide ((0:Int)<= -1)=false from rfl,cond_false]
  by_cases ho:(gI g).own (j:Int)=wB W (j:Int)
  · -- a pick
    obtain⟨row,hr⟩:=cj (xs:=g.Arena.Next) (i:=(j:Int)) (by omega) (by have:=h.ln;omega)
    obtain⟨u,u1,u2,u3,u4⟩:=g2.ex hv ho (by rw[g3 j (Nat.le_refl j)];decide)
    obtain⟨i,u,h1,h2,h3⟩:=te (row:=row) (C:=λu=>wB W u=wB W (j:Int)/\Par.Dom (Par.pickG (gI g) (Par.updF (pkL s) j u)) (Par.Rg (Xn n) (wB W) (wB W j)) (wB W j) (Par.Rg (Xn n) (wB W) (wB W j))) ⟨u,by have:u∈cv g.Arena j:=u1;rwa [dA hr]at this,u3,u4⟩
    have huE:(gI g).E (j:Int) u:=by show u∈cv g.Arena j;rw[dA hr];exact yB h1
    have huX:=(yv h huE).2
    obtain⟨L,l1,l2,l3⟩:=vr (W:=W) hn256 [] (wB W (j:Int))
    obtain⟨B,hB1,hB2,hB3⟩:∃B,(bif (b2i (wB W (j:Int))==1) then some B1 else some B0)=some B/\B.length=n/\In B=Par.Rg (Xn n) (wB W) (wB W j):=by
     cases hq:wB W (j:Int) with
     | true=>exact⟨B1,rfl,d2,d3⟩
     | false=>exact⟨B0,rfl,c2,c3⟩
    obtain⟨k',k1,k2,k3⟩:=xw hp hn p2 g1 g2 hv ho hr h1 h2 h3 hB2 hB3
    obtain⟨k'',m1,m2,m3⟩:=xU hp hn g1 g2 hv (g3 j (Nat.le_refl j)) hr h1 h2 h3 l3
    have:k''=k':=ur m2 k2 (by rw[m3,k3])
    subst this
    obtain⟨old,hold⟩:=cj (xs:=k'') (i:=(j:Int)) (by omega) (by omega)
    obtain⟨z,hz,hzl⟩:=cF (xs:=k'') (i:=(j:Int)) u (by omega) (by omega)
    have:z=k'':=ur (n:=n) (by omega) k2 (by rw[ph hz,k3,oF])
    subst this
    have e1':(b2i (wB W (j:Int)) !=b2i ((gI g).own (j:Int)))=false:=by rw[ho];simp
    have e2':(b2i ((gI g).own (j:Int)) !=b2i (wB W (j:Int)))=false:=by rw[ho];simp
    rw[e1',e2',cond_false,cond_false,bE,cond_false,hB1,bE,k1,bE]
    dsimp only
    rw[hold,bE,hz,bE,l1,bE,hr,bE,m1,bE,bJ]
    refine⟨_,_,rfl,rfl,rfl,k2,?_,λi' hi'=>?_,λv hvx hvj hvo=>?_,λv x hx=>?_⟩
    · rw[k3];exact g2.step hv ho huE huX h2.1 h2.2
    · rw[k3]
      unfold Par.updF
      rw[if_neg (by omega)]
      exact g3 i' (by omega)
    · rw[k3]
      unfold Par.updF
      by_cases e:v=j
      · rw[if_pos e];exact huX.1
      · rw[if_neg e];exact g4 v hvx (by omega) hvo
    · have:=oD hx
      rw[k3]at this
      unfold Par.updF at this
      by_cases e:v=j
      · rw[if_pos e]at this;rw[← this];exact .inr huX.1
      · rw[if_neg e]at this
        obtain⟨v0,v1⟩:=cq hx
        have hs:=mO g1 v0 (by omega)
        rw[this]at hs
        exact g5 v x hs
  · have e1':(b2i (wB W (j:Int)) !=b2i ((gI g).own (j:Int)))=true:=by
     unfold bne;rw[mW]
     cases hx:wB W (j:Int) <;> cases hy:(gI g).own (j:Int) <;> simp_all
    have e2':(b2i ((gI g).own (j:Int)) !=b2i (wB W (j:Int)))=true:=by
     unfold bne;rw[mW]
     cases hx:wB W (j:Int) <;> cases hy:(gI g).own (j:Int) <;> simp_all
    rw[e1',e2',cond_true,cond_true,bE,cond_true]
    refine⟨_,_,rfl,rfl,rfl,g1,g2,λi' hi'=>g3 i' (by omega),λv hvx hvj hvo=>?_,g5⟩
    have:v≠j:=λe=>ho (by rw[← e];exact hvo)
    exact g4 v hvx (by omega) hvo)
 rw[f1,f2,bE,bE,bJ,bJ,appL (by simp;omega) rfl,bE,List.nil_append]
 exact⟨s,rfl,rfl,f3,f7,f4.ans λv hv hvo=>f6 v hv hv.2 hvo⟩
end
end Go.Proofs.YtleekpaohfpooaaGreat
set_option linter.unusedVariables false
set_option linter.unusedSimpArgs false
namespace Go.Proofs.YtleekpaohfpooaaGreat
open Go Go.Wk Go.Proofs
open Classical
theorem sI {g:Parity}{n:Nat}(h:GOk g n):ml g.Arena=some (sh n (-1)):=by
 have hn:=h.n256
 unfold ml
 rw[h.lo,di (by omega) rfl,bE,List.length_replicate]
 obtain⟨s,h1,h2,h3⟩:=fill (f:=kn) (λ_=> -1) n (s0:=sh n 0) (by simp) (λj s hj hs=>rfl)
 rw[h1,bE,bJ]
 congr 1
 apply List.ext_getElem?
 intro i
 rw[yF]
 by_cases hi:i<n
 · rw[if_pos hi,← bH];exact h3 i hi
 · rw[if_neg hi];exact List.getElem?_eq_none (by omega)
theorem sj {n:Nat}(hn:n<=256):qj (n:Int)=some (sh n (-1)):=by
 unfold qj
 have hr:rng (n:Int)=some ():=by
  unfold rng
  first
   | rfl
   | rw[if_pos (by omega)]
 rw[hr,bE,show yG ((n:Int)-0)=n from by omega]
 obtain⟨s,h1,h2⟩:=bX (f:=mC) (λj (s:List Int)=>s=sh j (-1)) n (s:=[]) rfl (λj s hj hs=>by
  subst hs
  unfold mC
  rw[app1 (by simp;omega) rfl,bE]
  exact⟨_,rfl,by rw[List.replicate_succ']⟩)
 rw[h1,bE,bJ,h2]
structure Solv (g:Parity) (W:Int->Prop) (k:List Int):Prop where
 sol:Par.Sol (gI g) (Xn g.Prio.length) false W
 len:k.length=g.Prio.length
 pick:∀v x,idx k v=some x->x= -1\/0<=x
 ans:Par.Ans (gI g) (Xn g.Prio.length) (wB W) (pkL k)
theorem si {g:Parity}(hp:cA g=true):∃W k,pP g=some ⟨wonL g.Prio.length W,k⟩/\kE g=some ⟨wonL g.Prio.length W,k⟩/\ir g=some (wonL g.Prio.length W)/\er g=some (wonL g.Prio.length W)/\Solv g W k:=by
 have h:=GOk.of hp
 obtain⟨W,a1,a2,a3⟩:=vx h (mN hp)
 obtain⟨k,k1,k2,k3,k4,k5⟩:=tG hp rfl a3 a1
 refine⟨W,k,?_,?_,a1,a2,a3,k3,k4,k5⟩
 · unfold pP
   rw[kv,hp,bE,yJ,cond_false,sj h.n256,bE,k1];rfl
 · unfold kE
   rw[qx,hp,bE,yJ,cond_false,sI h,bE,a2,bE,k2];rfl
end Go.Proofs.YtleekpaohfpooaaGreat
set_option linter.unusedVariables false
set_option linter.unusedSimpArgs false
namespace Go.Proofs.YtleekpaohfpooaaGreat
open Go Go.Wk Go.Proofs
def lasso (b:Int->Int):Nat->List Int->Int->List Int×Int
 | 0,T,q=>(T,q)
 | k+1,T,q=>if q∈T then(T,q) else lasso b k (T++[q]) (b q)
theorem pL {b:Int->Int}{n:Nat}(hb:∀q:Int,0<=q->q<n->0<=b q/\b q<n):∀(k:Nat) (T:List Int) (q:Int),n<k+T.length->T.Nodup->(∀x∈T,0<=x/\x<n)->0<=q->q<n ->
 (lasso b k T q).2∈(lasso b k T q).1/\(lasso b k T q).1.Nodup/\(∀x∈(lasso b k T q).1,0<=x/\x<n)
 | 0,T,q,hk,hn,hr,_,_=>absurd (cW n T hn hr) (by omega)
 | k+1,T,q,hk,hn,hr,q0,q1=>by
  unfold lasso
  by_cases hq:q∈T
  · rw[if_pos hq];exact⟨hq,hn,hr⟩
  · rw[if_neg hq]
    have hn':(T++[q]).Nodup:=by
     rw[List.nodup_append]
     refine⟨hn,by simp,λa ha c hc e=>?_⟩
     rw[yM]at hc
     exact hq (by rw[← hc,← e];exact ha)
    exact pL hb k (T++[q]) (b q) (by simp;omega) hn' (λx hx=>by
     rw[yT,yM]at hx
     rcases hx with hx | rfl
     · exact hr x hx
     · exact⟨q0,q1⟩) (hb q q0 q1).1 (hb q q0 q1).2
theorem qN {ρ σ:Type}{f:σ->Option (ρ⊕(σ⊕σ))}(st:List Int->Int->σ){b:Int->Int}{n:Nat}(hb:∀q:Int,0<=q->q<n->0<=b q/\b q<n)
 (hf:∀(T:List Int) (q:Int),T.length<=n->(∀x∈T,0<=x/\x<(n:Int))->0<=q->q<n->f (st T q)=some (if q∈T then .inr (.inl (st T q)) else .inr (.inr (st (T++[q]) (b q))))):
 ∀(k:Nat) (K:Nat) (T:List Int) (q:Int),n<k+T.length->k<=K->T.Nodup->(∀x∈T,0<=x/\x<n)->0<=q->q<n->ca f K (st T q)=some (.inr (st (lasso b k T q).1 (lasso b k T q).2))
 | 0,K,T,q,hk,_,hn,hr,_,_=>absurd (cW n T hn hr) (by omega)
 | k+1,K,T,q,hk,hK,hn,hr,q0,q1=>by
  rw[iz (by omega),hf T q (cW n T hn hr) hr q0 q1,bE]
  unfold lasso
  by_cases hq:q∈T
  · simp only[hq,if_true];rfl
  · simp only[hq,if_false]
    have hn':(T++[q]).Nodup:=by
     rw[List.nodup_append]
     refine⟨hn,by simp,λa ha c hc e=>?_⟩
     rw[yM]at hc
     exact hq (by rw[← hc,← e];exact ha)
    exact qN st hb hf k (K-1) (T++[q]) (b q) (by simp;omega) (by omega) hn' (λx hx=>by
     rw[yT,yM]at hx
     rcases hx with hx | rfl
     · exact hr x hx
     · exact⟨q0,q1⟩) (hb q q0 q1).1 (hb q q0 q1).2
def dB (xs:List Int) (v:Int):Int:=match xs.findIdx? (λx=>v==x) with | some i=>(i:Int) | none=> -1
theorem qV {xs:List Int}{v:Int}(h:v∉xs):dB xs v= -1:=by
 unfold dB
 have:xs.findIdx? (λx=>v==x)=none:=by
  rw[List.findIdx?_eq_none_iff]
  intro x hx
  simp only[beq_eq_false_iff_ne]
  exact λe=>h (e ▸ hx)
 rw[this]
theorem qe {xs:List Int}{v:Int}(h:v∈xs):∃i:Nat,dB xs v=(i:Int)/\i<xs.length/\xs[i]? =some v:=by
 unfold dB
 cases hf:xs.findIdx? (λx=>v==x) with
 | none=>
  rw[List.findIdx?_eq_none_iff]at hf
  have:=hf v h
  simp at this
 | some i=>
  rw[List.findIdx?_eq_some_iff_getElem]at hf
  obtain⟨h1,h2,_⟩:=hf
  refine⟨i,rfl,h1,?_⟩
  rw[gs h1]
  have:=beq_iff_eq.1 h2
  rw[← this]
theorem wz (xs:List Int) (v:Int):xs.any (λx=>v==x)=decide (v∈xs):=by
 rw[yR,List.any_eq_true,decide_eq_true_eq]
 constructor
 · rintro⟨x,hx,e⟩
   rw[beq_iff_eq]at e
   exact e ▸ hx
 · exact λh=>⟨v,h,by simp⟩
theorem wi (xs:List Int) (v:Int):decide (dB xs v<0)= !decide (v∈xs):=by
 by_cases h:v∈xs
 · obtain⟨i,h1,_⟩:=qe h
   rw[h1]
   have:¬(i:Int)<0:=by omega
   simp[h,this]
 · rw[qV h]
   simp[h]
end Go.Proofs.YtleekpaohfpooaaGreat
set_option linter.unusedVariables false
set_option linter.unusedSimpArgs false
namespace Go.Proofs.YtleekpaohfpooaaGreat
open Go Go.Wk Go.Proofs
theorem oa (xs:List Int) (v:Int):jA xs v=some (dB xs v):=by
 unfold jA dB
 rw[fU (f:=ie xs v) (λx=>v==x) (λi=>(i:Int)) (xs:=xs) (λi x hx=>by
  unfold ie
  rw[bH,hx,bE,show(x==v)=(v==x) from BEq.comm]
  cases v==x <;> rfl),bE]
 cases xs.findIdx? (λx=>v==x) <;> rfl
end Go.Proofs.YtleekpaohfpooaaGreat
set_option linter.unusedVariables false
set_option linter.unusedSimpArgs false
namespace Go.Proofs.YtleekpaohfpooaaGreat
open Go Go.Wk Go.Proofs
theorem sN (xs:List Int) (v:Int):cz xs v=some (dB xs v):=gB xs v
end Go.Proofs.YtleekpaohfpooaaGreat
set_option linter.unusedVariables false
set_option linter.unusedSimpArgs false
namespace Go.Proofs.YtleekpaohfpooaaGreat
open Go Go.Wk Go.Proofs
def addN (xs:List Int) (u:Int):List Int:=if u∈xs then xs else xs++[u]
theorem uU {xs:List Int}{u:Int}(h:u∉xs):dB (xs++[u]) u=(xs.length:Nat):=by
 unfold dB
 have:(xs++[u]).findIdx? (λx=>u==x)=some xs.length:=by
  rw[List.findIdx?_append]
  have h1:xs.findIdx? (λx=>u==x)=none:=by
   rw[List.findIdx?_eq_none_iff]
   intro x hx
   simp only[beq_eq_false_iff_ne]
   exact λe=>h (e ▸ hx)
  rw[h1]
  simp
 rw[this]
def Names (n:Nat) (xs:List Int):Prop:=xs.Nodup/\∀x∈xs,0<=x/\x<n
theorem Names.len {n:Nat}{xs:List Int}(h:Names n xs):xs.length<=n:=cW n xs h.1 h.2
theorem Names.add {n:Nat}{xs:List Int}(h:Names n xs){u:Int}(u0:0<=u) (u1:u<n):Names n (addN xs u)/\∀(k:Nat) v,xs[k]? =some v->(addN xs u)[k]? =some v:=by
 unfold addN
 by_cases hu:u∈xs
 · rw[if_pos hu];exact⟨h,λk v hk=>hk⟩
 · rw[if_neg hu]
   refine⟨⟨?_,λx hx=>?_⟩,λk v hk=>?_⟩
   · rw[List.nodup_append]
     refine⟨h.1,by simp,λa ha c hc e=>?_⟩
     rw[yM]at hc
     exact hu (by rw[← hc,← e];exact ha)
   · rw[yT,yM]at hx
     rcases hx with hx | rfl
     · exact h.2 x hx
     · exact⟨u0,u1⟩
   · rw[List.getElem?_append_left (hV.1 hk).1];exact hk
end Go.Proofs.YtleekpaohfpooaaGreat
set_option linter.unusedVariables false
set_option linter.unusedSimpArgs false
namespace Go.Proofs.YtleekpaohfpooaaGreat
open Go Go.Wk Go.Proofs
theorem xI {x k:Place}(h:(x.At==k.At&&x.Record==k.Record)=true):x=k:=by
 rw[yH,beq_iff_eq,beq_iff_eq]at h
 cases x
 cases k
 simp only at h
 rw[h.1,h.2]
def locR (K:List Place) (k:Place):Option Nat:=K.findIdx? (λx=>x.At==k.At&&x.Record==k.Record)
def addR (K:List Place) (k:Place):List Place:=match locR K k with | some _=>K | none=>K++[k]
def atR (K:List Place) (k:Place):Int:=match locR K k with | some i=>(i:Int) | none=>(K.length:Int)
theorem sL (K:List Place) (k:Place):K.length<=(addR K k).length/\(addR K k).length<=K.length+1:=by
 unfold addR
 cases locR K k <;> simp
theorem ss {K:List Place}{k:Place}{i:Nat}{v:Place}(h:K[i]? =some v):(addR K k)[i]? =some v:=by
 unfold addR
 cases locR K k with
 | some _=>exact h
 | none=>
  have:=(hV.1 h).1
  dsimp only
  rw[List.getElem?_append_left this];exact h
theorem vM {K:List Place}{k x:Place}(h:x∈addR K k):x∈K\/x=k:=by
 unfold addR at h
 cases e:locR K k with
 | some _=>rw[e]at h;exact .inl h
 | none=>rw[e]at h;simpa using h
theorem uQ {K:List Place}{k:Place}{i:Nat}(h:locR K k=some i):K[i]? =some k:=by
 unfold locR at h
 obtain⟨h1,h2,h3⟩:=List.findIdx?_eq_some_iff_getElem.1 h
 have:k=K[i]:=(xI h2).symm
 rw[gs h1,← this]
theorem ve {K:List Place}{k:Place}(h:locR K k=none):k∉K:=λhm=>by
 unfold locR at h
 rw[List.findIdx?_eq_none_iff]at h
 have:=h k hm
 simp at this
theorem xa (K:List Place) (k:Place):0<=atR K k/\(addR K k)[(atR K k).toNat]? =some k:=by
 unfold atR addR
 cases h:locR K k with
 | none=>exact⟨by dsimp only;omega,by dsimp only;rw[Int.toNat_natCast];simp⟩
 | some i=>exact⟨by dsimp only;omega,by dsimp only;rw[Int.toNat_natCast];exact uQ h⟩
theorem tU {K:List Place}(hn:K.Nodup) (k:Place):(addR K k).Nodup:=by
 unfold addR
 cases h:locR K k with
 | none=>
  dsimp only
  refine List.nodup_append.2 ⟨hn,by simp,λa ha b hb e=>?_⟩
  rw[yM]at hb
  exact ve h (hb ▸ e ▸ ha)
 | some i=>exact hn
def dD (ky:Nat->Place) (K:List Place):Nat->List Place×List Int
 | 0=>(K,[])
 | j+1=>(addR (dD ky K j).1 (ky j),(dD ky K j).2++[atR (dD ky K j).1 (ky j)])
structure RowR (ky:Nat->Place) (K:List Place) (j:Nat) (K':List Place) (row:List Int):Prop where
 pre:∀(i:Nat) v,K[i]? =some v->K'[i]? =some v
 len:K.length<=K'.length
 le:K'.length<=K.length+j
 nod:K.Nodup->K'.Nodup
 rl:row.length=j
 at_:∀i:Nat,i<j->∃x,row[i]? =some x/\0<=x/\K'[x.toNat]? =some (ky i)
 mem:∀v∈K',v∈K\/∃i:Nat,i<j/\v=ky i
theorem lG (ky:Nat->Place) (K:List Place):∀j,RowR ky K j (dD ky K j).1 (dD ky K j).2
 | 0=>⟨λ_ _ h=>h,Nat.le_refl _,Nat.le_refl _,id,rfl,λi hi=>absurd hi (Nat.not_lt_zero i),λv h=> .inl h⟩
 | j+1=>by
  have h:=lG ky K j
  unfold dD
  generalize dD ky K j=F at *
  have hl:=sL F.1 (ky j)
  obtain⟨a0,a1⟩:=xa F.1 (ky j)
  refine⟨λi v hv=>ss (h.pre i v hv),Nat.le_trans h.len hl.1,?_,λhn=>tU (h.nod hn) _,by simp[h.rl],λi hi=>?_,λv hv=>?_⟩
  · have:=h.le;dsimp only;omega
  · by_cases e:i=j
    · subst e
      refine⟨_,by rw[← h.rl];simp,a0,a1⟩
    · obtain⟨x,x1,x2,x3⟩:=h.at_ i (by omega)
      have hix:=(hV.1 x1).1
      exact⟨x,by rw[List.getElem?_append_left hix];exact x1,x2,ss x3⟩
  · rcases vM hv with hv | hv
    · rcases h.mem v hv with k | ⟨i,hi,e⟩
      · exact .inl k
      · exact .inr ⟨i,by omega,e⟩
    · exact .inr ⟨j,by omega,hv⟩
end Go.Proofs.YtleekpaohfpooaaGreat
set_option linter.unusedVariables false
set_option linter.unusedSimpArgs false
namespace Go.Proofs.YtleekpaohfpooaaGreat
open Go Go.Wk Go.Proofs
def cI (ps:List Pair) (v i:Int):Bool:=match idx ps i with | some p=>decide (v∈p.Give) | none=>false
def askI (ps:List Pair) (v i:Int):Bool:=match idx ps i with | some p=>decide (v∈p.Ask) | none=>false
def fg (ps:List Pair) (rc:List Int) (v:Int):List Int:=rc.filter (cI ps v)++rc.filter λi=> !cI ps v i
def cN (f:Int->Bool) (xs:List Int):Nat->Int
 | 0=> -1
 | j+1=>bif (match xs[j]? with | some x=>f x | none=>false) then(j:Int) else cN f xs j
def jM (ps:List Pair) (rc:List Int) (v:Int):Int:=
 bif decide (cN (askI ps v) rc rc.length<0)&&decide (cN (cI ps v) rc rc.length<0) then 0
 else bif decide (cN (cI ps v) rc rc.length<cN (askI ps v) rc rc.length) then 2 * cN (askI ps v) rc rc.length+1
 else 2 * cN (cI ps v) rc rc.length+2
theorem gY (f:Int->Bool) (xs:List Int):∀j:Nat,-1<=cN f xs j/\cN f xs j<j
 | 0=>by unfold cN;omega
 | j+1=>by
  have:=gY f xs j
  unfold cN
  cases(match xs[j]? with | some x=>f x | none=>false) with
  | true=>rw[cond_true];omega
  | false=>rw[cond_false];omega
theorem wu (ps:List Pair){rc:List Int}(v:Int) (h:rc.length<=4):inR 41 (jM ps rc v)=true:=by
 have a:=gY (askI ps v) rc rc.length
 have g:=gY (cI ps v) rc rc.length
 rw[cQ]
 unfold jM
 generalize cN (askI ps v) rc rc.length=x at *
 generalize cN (cI ps v) rc rc.length=y at *
 by_cases h1:x<0
 · by_cases h2:y<0
   · simp[h1,h2]
   · by_cases h3:y<x
     · omega
     · simp only[h1,h2,h3,decide_true,decide_false,Bool.and_false,cond_false];omega
 · by_cases h3:y<x
   · simp only[h1,h3,decide_true,decide_false,Bool.false_and,cond_false,cond_true];omega
   · simp only[h1,h3,decide_false,Bool.false_and,cond_false];omega
theorem ll (p:Int->Bool):∀xs:List Int,(xs.filter p).length+(xs.filter λx=> !p x).length=xs.length
 | []=>rfl
 | x::xs=>by
  have:=ll p xs
  simp only[List.filter_cons]
  cases p x <;> simp <;> omega
theorem sw (ps:List Pair){rc:List Int}{k:Nat}(v:Int) (hl:rc.length=k) (hr:∀x∈rc,0<=x/\x<(k:Int)):(fg ps rc v).length=k/\∀x∈fg ps rc v,0<=x/\x<(k:Int):=by
 unfold fg
 refine⟨by rw[yK,ll,hl],λx hx=>?_⟩
 rcases yT.1 hx with h | h
 · exact hr x (List.mem_filter.1 h).1
 · exact hr x (List.mem_filter.1 h).1
theorem se (ps:List Pair){rc:List Int}(v:Int) (h:rc.Nodup):(fg ps rc v).Nodup:=by
 unfold fg
 rw[List.nodup_append]
 refine⟨h.sublist List.filter_sublist,h.sublist List.filter_sublist,λa ha b hb e=>?_⟩
 subst e
 have h1:=(List.mem_filter.1 ha).2
 have h2:=(List.mem_filter.1 hb).2
 rw[h1]at h2
 cases h2
structure VOk (n k:Nat) (v:Place):Prop where
 a0:0<=v.At
 a1:v.At<(n:Int)
 rl:v.Record.length=k
 rin:∀x∈v.Record,0<=x/\x<(k:Int)
 nd:v.Record.Nodup
def kyR (ar rc:List Int) (i:Nat):Place:=⟨ar.getD i 0,rc⟩
structure RowP (P:List Place) (ar rc r:List Int):Prop where
 asc:Asc r
 len:r.length=ar.length
 to:∀y∈r,0<=y/\∃u∈ar,P[y.toNat]? =some ⟨u,rc⟩
 has:∀u∈ar,∃y∈r,0<=y/\P[y.toNat]? =some ⟨u,rc⟩
theorem RowP.mono {P P':List Place}{ar rc r:List Int}(h:RowP P ar rc r) (hp:∀(i:Nat) v,P[i]? =some v->P'[i]? =some v):RowP P' ar rc r:=
 ⟨h.asc,h.len,λy hy=>by
  obtain⟨a,u,b,c⟩:=h.to y hy
  exact⟨a,u,b,hp _ _ c⟩,λu hu=>by
  obtain⟨y,a,b,c⟩:=h.has u hu
  exact⟨y,a,b,hp _ _ c⟩⟩
theorem tO {ar rc:List Int}{P:List Place}(hn:ar.Nodup):(dD (kyR ar rc) P ar.length).2.Nodup:=by
 have r:=lG (kyR ar rc) P ar.length
 generalize dD (kyR ar rc) P ar.length=G at *
 have hrl:=r.rl
 refine List.pairwise_iff_getElem.2 λi j hi hj hij e=>?_
 obtain⟨x,x1,_,x3⟩:=r.at_ i (by omega)
 obtain⟨y,y1,_,y3⟩:=r.at_ j (by omega)
 rw[gs hi]at x1
 rw[gs hj]at y1
 have hxy:x=y:=by rw[← Option.some.inj x1,← Option.some.inj y1];exact e
 subst hxy
 rw[x3]at y3
 have:=congrArg Place.At (Option.some.inj y3)
 simp only[kyR,List.getD_eq_getElem?_getD,gs (show i<ar.length by omega),gs (show j<ar.length by omega),Option.getD_some]at this
 exact(List.pairwise_iff_getElem.1 hn) i j (by omega) (by omega) hij this
theorem xe {ar rc:List Int}{P:List Place}{S:List Int}(hS:Asc S) (hl:S.length=ar.length) (hm:∀y,y∈S↔y∈(dD (kyR ar rc) P ar.length).2):RowP (dD (kyR ar rc) P ar.length).1 ar rc S:=by
 have r:=lG (kyR ar rc) P ar.length
 generalize dD (kyR ar rc) P ar.length=G at *
 have hrl:=r.rl
 have hky:∀i,i<ar.length->kyR ar rc i=⟨ar.getD i 0,rc⟩/\ar.getD i 0∈ar:=λi hi=>⟨rfl,by
  rw[List.getD_eq_getElem?_getD,gs hi]
  exact List.getElem_mem hi⟩
 refine⟨hS,hl,λy hy=>?_,λu hu=>?_⟩
 · obtain⟨i,hi⟩:=List.getElem?_of_mem ((hm y).1 hy)
   have hlt:=(hV.1 hi).1
   obtain⟨x,x1,x2,x3⟩:=r.at_ i (by omega)
   rw[hi]at x1
   cases x1
   obtain⟨k1,k2⟩:=hky i (by omega)
   exact⟨x2,_,k2,by rw[x3,k1]⟩
 · obtain⟨i,hi⟩:=List.getElem?_of_mem hu
   have hlt:=(hV.1 hi).1
   obtain⟨x,x1,x2,x3⟩:=r.at_ i hlt
   refine⟨x,(hm x).2 (yB x1),x2,?_⟩
   rw[x3]
   unfold kyR
   rw[List.getD_eq_getElem?_getD,hi];rfl
structure RecS (a:Arena) (ps:List Pair) (st:Place) (P:List Place) (i:Nat) (O:List Int) (N:List (List Int)) (Q:List Int):Prop where
 nod:P.Nodup
 zero:P[0]? =some st
 il:i<=P.length
 ol:O.length=i
 nl:N.length=i
 ql:Q.length=i
 inn:∀v∈P,VOk a.Owner.length ps.length v
 row:∀(j:Nat) v,j<i->P[j]? =some v->O[j]? =idx a.Owner v.At/\Q[j]? =some (jM ps v.Record v.At)/\∃r ar,N[j]? =some r/\idx a.Next v.At=some ar/\RowP P ar (fg ps v.Record v.At) r
theorem RecS.init {a:Arena}{ps:List Pair}{st:Place}(h:VOk a.Owner.length ps.length st):RecS a ps st [st] 0 [] [] []:=
 ⟨by simp,rfl,by simp,rfl,rfl,rfl,λv hv=>by rw[yM.1 hv];exact h,λj v hj=>absurd hj (Nat.not_lt_zero j)⟩
theorem RecS.step {a:Arena}{ps:List Pair}{st:Place}{P:List Place}{i:Nat}{O:List Int}{N:List (List Int)}{Q:List Int}(h:RecS a ps st P i O N Q){v:Place}(hv:P[i]? =some v){ar:List Int}(har:idx a.Next v.At=some ar) (hin:∀u∈ar,0<=u/\u<(a.Owner.length:Int)){o:Int}(ho:idx a.Owner v.At=some o){S:List Int}
 (hS:Asc S) (hSl:S.length=ar.length) (hSm:∀y,y∈S↔y∈(dD (kyR ar (fg ps v.Record v.At)) P ar.length).2):
 RecS a ps st (dD (kyR ar (fg ps v.Record v.At)) P ar.length).1 (i+1) (O++[o]) (N++[S]) (Q++[jM ps v.Record v.At]):=by
 have hP:=xe hS hSl hSm
 have r:=lG (kyR ar (fg ps v.Record v.At)) P ar.length
 have hvo:=h.inn v (yB hv)
 have hn:=sw ps v.At hvo.rl hvo.rin
 have hky:∀x,x<ar.length->VOk a.Owner.length ps.length (kyR ar (fg ps v.Record v.At) x):=λx hx=>by
  have hm:ar.getD x 0∈ar:=by
   rw[List.getD_eq_getElem?_getD,gs hx]
   exact List.getElem_mem hx
  obtain⟨u0,u1⟩:=hin _ hm
  exact⟨u0,u1,hn.1,hn.2,se ps v.At hvo.nd⟩
 generalize dD (kyR ar (fg ps v.Record v.At)) P ar.length=G at *
 have hiP:=(hV.1 hv).1
 have h1:=h.ol
 have h2:=h.nl
 have h3:=h.ql
 have hlen:=r.len
 refine⟨r.nod h.nod,r.pre 0 _ h.zero,by omega,by simp[h1],by simp[h2],by simp[h3],λu hu=>?_,λj u hj hu=>?_⟩
 · rcases r.mem u hu with hm | ⟨x,hx,e⟩
   · exact h.inn u hm
   · rw[e];exact hky x hx
 · by_cases e:j=i
   · subst e
     have huv:u=v:=by
      have:=r.pre j v hv
      rw[hu]at this
      exact Option.some.inj this
     subst huv
     refine⟨by rw[← h1,ho];simp,by rw[← h3];simp,S,ar,by rw[← h2];simp,har,hP⟩
   · have hj':j<i:=by omega
     have hjP:P[j]? =some (P[j]'(by omega)):=gs (by omega)
     have huv:u=P[j]'(by omega):=by
      have:=r.pre j _ hjP
      rw[hu]at this
      exact Option.some.inj this
     rw[← huv]at hjP
     obtain⟨b1,b2,rr,ar',b3,b4,b5⟩:=h.row j u hj' hjP
     exact⟨by rw[List.getElem?_append_left (by omega)];exact b1,by rw[List.getElem?_append_left (by omega)];exact b2,rr,ar',by rw[List.getElem?_append_left (by omega)];exact b3,b4,b5.mono r.pre⟩
structure RecG (a:Arena) (ps:List Pair) (st:Place) (P:List Place) (g:Parity):Prop where
 game:RecS a ps st P P.length g.Arena.Owner g.Arena.Next g.Prio
 le:P.length<=256
theorem RecG.ok {a:Arena}{ps:List Pair}{st:Place}{P:List Place}{g:Parity}(h:RecG a ps st P g) (ha:dz a=true) (hO:∀o∈a.Owner,inR 2 o=true) (hN:∀(i:Nat) row,a.Next[i]? =some row->1<=row.length/\row.length<=16) (hk:ps.length<=4):cA g=true:=by
 have hr:=h.game
 have h0:=(hV.1 hr.zero).1
 have h1:=hr.ol
 have h2:=hr.nl
 have h3:=hr.ql
 have hle:=h.le
 have hv:∀j:Nat,j<P.length->∃v,P[j]? =some v:=λj hj=>⟨_,gs hj⟩
 refine uS (by omega) (by omega) (by omega) (by omega) (λrow hrow=>?_) (λo ho=>?_) λx hx=>?_
 · obtain⟨j,hj⟩:=List.getElem?_of_mem hrow
   have hlt:=(hV.1 hj).1
   obtain⟨v,hjv⟩:=hv j (by omega)
   obtain⟨_,_,r,ar,b3,b4,b5⟩:=hr.row j v (by omega) hjv
   rw[hj]at b3
   cases b3
   have v0:=(ff b4).1
   rw[cE v0]at b4
   obtain⟨l1,l2⟩:=hN _ _ b4
   have hl:=b5.len
   refine⟨by omega,by omega,fd.2 ⟨λy hy=>?_,b5.asc⟩⟩
   obtain⟨y0,u,_,hu⟩:=b5.to y hy
   have:=(hV.1 hu).1
   omega
 · obtain⟨j,hj⟩:=List.getElem?_of_mem ho
   have hlt:=(hV.1 hj).1
   obtain⟨v,hjv⟩:=hv j (by omega)
   obtain⟨b1,_⟩:=hr.row j v (by omega) hjv
   rw[hj]at b1
   have v0:=(ff b1.symm).1
   rw[cE v0]at b1
   exact hO o (yB b1.symm)
 · obtain⟨j,hj⟩:=List.getElem?_of_mem hx
   have hlt:=(hV.1 hj).1
   obtain⟨v,hjv⟩:=hv j (by omega)
   obtain⟨_,b2,_⟩:=hr.row j v (by omega) hjv
   rw[hj]at b2
   cases b2
   exact wu ps v.At (by have:=(hr.inn v (yB hjv)).rl;omega)
def firstR (k:Nat):List Int:=(List.range k).map Int.ofNat
theorem sa (k:Nat):(firstR k).Nodup:=List.Pairwise.map _ (λ_ _ hab e=>hab (Int.ofNat.inj e)) List.nodup_range
end Go.Proofs.YtleekpaohfpooaaGreat
set_option linter.unusedVariables false
set_option linter.unusedSimpArgs false
namespace Go.Proofs.YtleekpaohfpooaaGreat
open Go Go.Wk Go.Proofs
theorem uH (row:List Int) (v:Int):jJ row v=some (decide (v∈row)):=by
 unfold jJ
 rw[cP (f:=je row v) (r:=true) (xs:=row) (λx=> !(x==v)) rfl (λi x hx=>by
  unfold je
  rw[bH,hx,bE]
  cases x==v <;> rfl)]
 by_cases h:v∈row
 · rw[if_neg,decide_eq_true h];rfl
   rw[List.all_eq_true]
   intro hall
   have:=hall v h
   simp at this
 · rw[if_pos,decide_eq_false h];rfl
   rw[List.all_eq_true]
   intro x hx
   simp only[Bool.not_eq_true',beq_eq_false_iff_ne,ne_eq]
   exact λe=>h (e ▸ hx)
theorem yg (p0 p1:List Int):gi p0 p1=some (decide (p0=p1)):=by
 unfold gi
 by_cases h:p0.length=p1.length
 · rw[show((p0.length:Int) !=(p1.length:Int))=false from by rw[h];simp,cond_false]
   rw[uB (f:=eq p0 p1) (r:=false) (λx y=>decide (x=y)) h (λi x y hx hy=>by
    unfold eq
    rw[bH,bH,hx,hy,bE,bE]
    by_cases e:x=y
    · subst e;simp
    · have e':(x==y)=false:=by simp[e]
      simp[bne,e',e])]
   rw[np h]
   cases decide (p0=p1) <;> rfl
 · rw[show((p0.length:Int) !=(p1.length:Int))=true from by simp only[bne_iff_ne,ne_eq];omega,cond_true,decide_eq_false (λe=>h (by rw[e]))]
def n9 (P:List Place) (k:Place):Int:=match locR P k with | some i=>(i:Int) | none=> -1
theorem xM (P:List Place) (u:Int) (rc:List Int):kU P u rc=some (n9 P ⟨u,rc⟩):=by
 unfold kU
 rw[fU (f:=ij P u rc) (λx=>x.At==u&&x.Record==rc) (λi=>(i:Int)) (xs:=P) (λi x hx=>by
  unfold ij
  rw[bH,hx,bE]
  by_cases h1:x.At=u
  · rw[show(x.At==u)=true from by simpa using h1,cond_true,bE,yg]
    by_cases h2:x.Record=rc
    · rw[decide_eq_true h2,show(x.Record==rc)=true from by simpa using h2];rfl
    · rw[decide_eq_false h2,show(x.Record==rc)=false from by simpa using h2];rfl
  · rw[show(x.At==u)=false from by simpa using h1];rfl)]
 unfold n9 locR
 cases P.findIdx? (λx=>x.At==u&&x.Record==rc) <;> rfl
section
variable {ps:List Pair}{rc:List Int}(hr:∀x∈rc,0<=x/\x<(ps.length:Int)) (hl:rc.length<=1000)
include hr hl
theorem xJ (v:Int):iJ ps rc v=some (fg ps rc v):=by
 unfold iJ
 obtain⟨s,h1,h2⟩:=bX (f:=eJ ps rc v) (λj (s:List Int×List Int)=>s=((rc.take j).filter (cI ps v),(rc.take j).filter λi=> !cI ps v i)) rc.length (s:=([],[])) rfl (λj s hj hs=>by
  subst hs
  have hx:rc[j]? =some rc[j]:=gs hj
  generalize rc[j]=x at hx
  obtain⟨x0,x1⟩:=hr x (yB hx)
  obtain⟨p,hp,_⟩:=iI (xs:=ps) x0 x1
  have hg:cI ps v x=decide (v∈p.Give):=by unfold cI;rw[hp]
  have l1:((rc.take j).filter (cI ps v)).length<=1000:=Nat.le_trans (List.length_filter_le ..) (by rw[yP];omega)
  have l2:((rc.take j).filter λi=> !cI ps v i).length<=1000:=Nat.le_trans (List.length_filter_le ..) (by rw[yP];omega)
  unfold eJ
  rw[bH,hx,bE,hp,bE,uH,← hg,bE,yU,hx]
  simp only[Option.toList_some,List.filter_append]
  cases hc:cI ps v x with
  | true=>
   simp only[cond_true,bE]
   rw[app1 (by omega) rfl]
   exact⟨_,rfl,by simp[hc]⟩
  | false=>
   simp only[cond_false,bE]
   rw[app1 (by omega) rfl]
   exact⟨_,rfl,by simp[hc]⟩)
 rw[h1,h2,bE,bJ,List.take_length]
 have l1:(rc.filter (cI ps v)).length<=1000:=Nat.le_trans (List.length_filter_le ..) hl
 have l2:(rc.filter λi=> !cI ps v i).length<=1000:=Nat.le_trans (List.length_filter_le ..) hl
 dsimp only
 rw[appL (by omega) rfl];rfl
theorem yc (v:Int):iB ps rc v=some (jM ps rc v):=by
 unfold iB
 obtain⟨s,h1,h2⟩:=bX (f:=eH ps rc v) (λj (s:Int×Int)=>s=(cN (askI ps v) rc j,cN (cI ps v) rc j)) rc.length (s:=(-1,-1)) rfl (λj s hj hs=>by
  subst hs
  have hx:rc[j]? =some rc[j]:=gs hj
  generalize rc[j]=x at hx
  obtain⟨x0,x1⟩:=hr x (yB hx)
  obtain⟨p,hp,_⟩:=iI (xs:=ps) x0 x1
  have hg:cI ps v x=decide (v∈p.Give):=by unfold cI;rw[hp]
  have ha:askI ps v x=decide (v∈p.Ask):=by unfold askI;rw[hp]
  have e1:cN (askI ps v) rc (j+1)=bif askI ps v x then(j:Int) else cN (askI ps v) rc j:=by
   show(bif (match rc[j]? with | some x=>askI ps v x | none=>false) then(j:Int) else _)=_
   rw[hx]
  have e2:cN (cI ps v) rc (j+1)=bif cI ps v x then(j:Int) else cN (cI ps v) rc j:=by
   show(bif (match rc[j]? with | some x=>cI ps v x | none=>false) then(j:Int) else _)=_
   rw[hx]
  refine⟨_,?_,rfl⟩
  unfold eH
  simp only[bH,hx,bE,hp,uH,← hg,← ha]
  rw[e1,e2]
  cases askI ps v x <;> cases cI ps v x <;> rfl)
 rw[h1,h2,bE,bJ]
 have a:=gY (askI ps v) rc rc.length
 have g:=gY (cI ps v) rc rc.length
 unfold jM
 dsimp only
 generalize cN (askI ps v) rc rc.length=x at *
 generalize cN (cI ps v) rc rc.length=y at *
 rw[wr' (z:=2 * x) (by omega) (by omega),wr' (z:=2 * x+1) (by omega) (by omega),wr' (z:=2 * y) (by omega) (by omega),wr' (z:=2 * y+2) (by omega) (by omega)]
 cases decide (x<0) <;> cases decide (y<0) <;> cases decide (y<x) <;> rfl
end
theorem vI {xs:List Int}(hn:xs.Nodup) (hl:xs.length<=1000):∃S,iQ xs=some S/\Asc S/\S.length=xs.length/\∀z,z∈S↔z∈xs:=by
 unfold iQ
 obtain⟨s,h1,h2,h3,h4⟩:=bX (f:=fw xs) (λj (s:List Int)=>Asc s/\s.length=j/\∀z,z∈s↔z∈xs.take j) xs.length (s:=[]) ⟨List.Pairwise.nil,rfl,λz=>by simp⟩ (λj s hj ⟨a1,a2,a3⟩=>by
  have hx:xs[j]? =some xs[j]:=gs hj
  have hxj:=hx
  generalize hxe:xs[j]=x at hx
  have hnot:x∉s:=λhm=>by
   obtain⟨i,hi⟩:=List.getElem?_of_mem ((a3 x).1 hm)
   have hil:=(hV.1 hi).1
   rw[yP]at hil
   rw[List.getElem?_take,if_pos (by omega),gs (by omega)]at hi
   have:=(List.pairwise_iff_getElem.1 hn) i j (by omega) hj (by omega)
   exact this ((Option.some.inj hi).trans hxe.symm)
  obtain⟨o,w1,w2⟩:=cB (f:=fP xs (j:Int) s) (λq (k:Int)=>∃m:Nat,k=(m:Int)/\m+q=s.length/\∀(i:Nat) y,m<=i->s[i]? =some y->x<y) (λ_=>False) (λk=>∃m:Nat,k=(m:Int)/\m<=s.length/\(∀(i:Nat) y,m<=i->s[i]? =some y->x<y)/\∀(i:Nat) y,i<m->s[i]? =some y->y<x) s.length (λq k ⟨m,e,hm,hi⟩=>by
   subst e
   unfold fP
   by_cases h0:0<m
   · have hy:s[m-1]? =some (s[m-1]'(by omega)):=gs (by omega)
     generalize s[m-1]'(by omega)=y at hy
     have hw:IntKind.i64.wrap ((m:Int)-1)=((m-1:Nat):Int):=by rw[wr' (by omega) (by omega)];omega
     rw[decide_eq_true (show(0:Int)<(m:Int) by omega),cond_true,hw,bH,hy,bE,bH,hx,bE,bE]
     by_cases hlt:x<y
     · rw[decide_eq_true hlt,cond_true]
       refine⟨_,rfl,by omega,m-1,rfl,by omega,λi z hi' hz=>?_⟩
       by_cases e:i=m-1
       · subst e
         rw[hy]at hz
         cases hz
         exact hlt
       · exact hi i z (by omega) hz
     · rw[decide_eq_false hlt,cond_false]
       refine⟨_,rfl,m,rfl,by omega,hi,λi z hi' hz=>?_⟩
       have hyx:y<x:=by
        have:y≠x:=λe=>hnot (e ▸ yB hy)
        omega
       by_cases e:i=m-1
       · subst e
         rw[hy]at hz
         cases hz
         exact hyx
       · have:=qW a1 hz hy (by omega)
         omega
   · have hm0:m=0:=by omega
     subst hm0
     rw[decide_eq_false (show ¬(0:Int)<((0:Nat):Int) by omega),cond_false,bE,cond_false]
     exact⟨_,rfl,0,rfl,by omega,hi,λi z hi' _=>absurd hi' (Nat.not_lt_zero i)⟩) (2 ^ 64) 0 (s.length:Int) (by omega) ⟨s.length,rfl,by omega,λi y hi hy=>by
     have:=(hV.1 hy).1
     omega⟩ (by omega)
  match o,w2 with
  | .inr k,⟨m,e,m1,m2,m3⟩=>
   subst e
   unfold fw
   have s1:subS s 0 (m:Int)=some (s.take m):=by
    unfold subS
    rw[if_pos ⟨by omega,by omega,by omega⟩]
    simp
   have s2:subS s (m:Int) (s.length:Int)=some (s.drop m):=by
    unfold subS
    rw[if_pos ⟨by omega,by omega,by omega⟩]
    simp
   have t1:(s.take m).length<=1000:=by rw[yP];omega
   have t2:(s.drop m).length<=1000:=by rw[List.length_drop];omega
   rw[w1,bE,bJ,s1,bE,appL (by simp;omega) rfl,bE,bH,hx,bE,List.nil_append,app1 (by omega) rfl,bE,s2,bE,appL (by rw[yK];simp only[yO,yQ];omega) rfl,bE]
   have hcut:(s.take m++[x])++s.drop m=ins x s:=by
    rw[List.append_assoc]
    exact uz a1 hnot m1 m3 (λz hz=>m2 m z (Nat.le_refl _) hz)
   refine⟨_,rfl,?_,?_,λz=>?_⟩
   · rw[hcut];exact pe a1
   · rw[hcut,tH hnot a1,a2]
   · rw[hcut,pi hnot,a3,yU,hx]
     simp only[Option.toList_some,yT,yM]
     constructor
     · rintro(h | h)
       · exact .inr h
       · exact .inl h
     · rintro(h | h)
       · exact .inr h
       · exact .inl h)
 rw[h1,bE,bJ]
 exact⟨s,rfl,h2,h3,λz=>by rw[h4,List.take_length]⟩
theorem qc {P:List Place}{k:Place}:(n9 P k<0->addR P k=P++[k]/\atR P k=(P.length:Int))/\(¬n9 P k<0->addR P k=P/\atR P k=n9 P k):=by
 unfold n9 addR atR
 cases locR P k with
 | none=>exact⟨λ_=>⟨rfl,rfl⟩,λh=>absurd (by show(-1:Int)<0;omega) h⟩
 | some i=>exact⟨λh=>absurd h (by show ¬((i:Int)<0);omega),λ_=>⟨rfl,rfl⟩⟩
theorem uT (ky:Nat->Place) (K:List Place):∀{i j:Nat},i<=j->(dD ky K i).1.length<=(dD ky K j).1.length:=by
 intro i j h
 induction h with
 | refl=>exact Nat.le_refl _
 | step h ih=>
  refine Nat.le_trans ih ?_
  show _<=(addR _ _).length
  exact(sL _ _).1
end Go.Proofs.YtleekpaohfpooaaGreat
set_option linter.unusedVariables false
set_option linter.unusedSimpArgs false
namespace Go.Proofs.YtleekpaohfpooaaGreat
open Go Go.Wk Go.Proofs
theorem conR (l:List Int) (v:Int):bO l v=some (decide (v∈l)):=by
 rw[dw]
 congr 1
 rw[yR]
 simp
theorem wV (ps:List Pair) (rc:List Int) (v:Int):ik ps rc v=iJ ps rc v:=by
 have h:eQ ps rc v=eJ ps rc v:=by
  funext j s
  unfold eQ eJ
  cases idx rc j with
  | none=>rfl
  | some x=>
   simp only[bE]
   cases idx ps x with
   | none=>rfl
   | some p=>simp only[bE,uH,conR]
 unfold ik iJ
 rw[h]
theorem xl (ps:List Pair) (rc:List Int) (v:Int):ip ps rc v=iB ps rc v:=by
 have h:eR ps rc v=eH ps rc v:=by
  funext j s
  unfold eR eH
  cases idx rc j with
  | none=>rfl
  | some x=>
   simp only[bE]
   cases idx ps x with
   | none=>rfl
   | some p=>simp only[bE,uH,conR]
 unfold ip iB
 rw[h]
theorem ud (P:List Place) (u:Int) (rc:List Int):kT P u rc=some (n9 P ⟨u,rc⟩):=by
 unfold kT
 rw[dF (λx=>x.At==u&&x.Record==rc) (λx _=>by
  unfold ji
  by_cases h1:x.At=u
  · rw[show(x.At==u)=true from by simpa using h1,cond_true,kQ]
    by_cases h2:x.Record=rc
    · rw[decide_eq_true h2,show(x.Record==rc)=true from by simpa using h2];rfl
    · rw[decide_eq_false h2,show(x.Record==rc)=false from by simpa using h2];rfl
  · rw[show(x.At==u)=false from by simpa using h1];rfl)]
 rfl
def noRec:Parity×List Place×Bool:=(⟨⟨[],[]⟩,[]⟩,[],false)
section
variable {a:Arena}{v:Place}{ar rc:List Int}{P:List Place}(har:idx a.Next v.At=some ar) (hal:ar.length<=16) (hrl:rc.length<=4)
include har hal hrl
theorem xB (hP:P.length<=256):∃o,ca (eZ a v rc) (2 ^ 64) (P,[],0)=some o/\(match o with
 | .inl r=>r=noRec/\256<(dD (kyR ar rc) P ar.length).1.length
 | .inr s=>s.1=(dD (kyR ar rc) P ar.length).1/\s.2.1=(dD (kyR ar rc) P ar.length).2/\(dD (kyR ar rc) P ar.length).1.length<=256):=by
 obtain⟨o,w1,w2⟩:=cB (f:=eZ a v rc) (λj (s:List Place×List Int×Int)=>s=((dD (kyR ar rc) P j).1,(dD (kyR ar rc) P j).2,(j:Int))/\j<=ar.length/\(dD (kyR ar rc) P j).1.length<=256) (λr=>r=noRec/\256<(dD (kyR ar rc) P ar.length).1.length)
  (λs=>s.1=(dD (kyR ar rc) P ar.length).1/\s.2.1=(dD (kyR ar rc) P ar.length).2/\(dD (kyR ar rc) P ar.length).1.length<=256) ar.length (λj s ⟨e,hj,hle⟩=>by
  subst e
  have rk:=lG (kyR ar rc) P j
  have hrl2:=rk.rl
  unfold eZ
  dsimp only
  rw[har,bE]
  by_cases hlt:j<ar.length
  · have hx:ar[j]? =some ar[j]:=gs hlt
    have hky:kyR ar rc j=⟨ar[j],rc⟩:=by unfold kyR;rw[List.getD_eq_getElem?_getD,hx];rfl
    generalize ar[j]=u at hx hky
    obtain⟨q1,q2⟩:=qc (P:=(dD (kyR ar rc) P j).1) (k:=kyR ar rc j)
    have hS:dD (kyR ar rc) P (j+1)=(addR (dD (kyR ar rc) P j).1 (kyR ar rc j),(dD (kyR ar rc) P j).2++[atR (dD (kyR ar rc) P j).1 (kyR ar rc j)]):=rfl
    have hm:=uT (kyR ar rc) P (show j+1<=ar.length by omega)
    rw[decide_eq_true (show(j:Int)<(ar.length:Int) by omega),cond_true,bE,bH,hx,bE,xM,← hky,bE]
    by_cases hc:n9 (dD (kyR ar rc) P j).1 (kyR ar rc j)<0
    · obtain⟨e1,e2⟩:=q1 hc
      rw[hS,e1]at hm
      simp only[yK,yO,yQ]at hm
      by_cases hbig:(256:Int)<=((dD (kyR ar rc) P j).1.length:Int)
      · rw[decide_eq_true hc,cond_true,decide_eq_true hbig,cond_true]
        exact⟨_,rfl,rfl,by omega⟩
      · rw[decide_eq_true hc,cond_true,decide_eq_false hbig,cond_false,appL (by simp;omega) rfl,bE,List.nil_append,app1 (by omega) rfl,bE,bE,bJ]
        dsimp only
        rw[app1 (by omega) rfl,bE,wr' (by omega) (by omega)]
        refine⟨_,rfl,by omega,?_,by omega,?_⟩
        · rw[hS,e1,e2,← hky];rfl
        · rw[hS,e1,yK];simp only[yO,yQ];omega
    · obtain⟨e1,e2⟩:=q2 hc
      rw[decide_eq_false hc,cond_false,bE,bJ]
      dsimp only
      rw[app1 (by omega) rfl,bE,wr' (by omega) (by omega)]
      refine⟨_,rfl,by omega,?_,by omega,?_⟩
      · rw[hS,e1,e2];rfl
      · rw[hS,e1];exact hle
  · have:j=ar.length:=by omega
    subst this
    rw[decide_eq_false (show ¬((ar.length:Nat):Int)<(ar.length:Int) by omega),cond_false]
    exact⟨_,rfl,rfl,rfl,hle⟩) (2 ^ 64) 0 (P,[],0) (by omega) ⟨rfl,Nat.zero_le _,hP⟩ (by omega)
 exact⟨o,w1,by
  match o,w2 with
  | .inl r,h=>exact h
  | .inr s,h=>exact h⟩
omit har in
theorem yj (hP:P.length<=1000):cntM (bV rc ar) ar.length 0 (P,[])=some (.inr (dD (kyR ar rc) P ar.length)):=by
 obtain⟨s,h1,h2⟩:=bX (f:=bV rc ar) (λj s=>s=dD (kyR ar rc) P j) ar.length (s:=(P,[])) rfl (λj s hj e=>by
  subst e
  have rk:=lG (kyR ar rc) P j
  have hrl2:=rk.rl
  have hle:=rk.le
  have hx:ar[j]? =some ar[j]:=gs hj
  have hky:kyR ar rc j=⟨ar[j],rc⟩:=by unfold kyR;rw[List.getD_eq_getElem?_getD,hx];rfl
  generalize ar[j]=u at hx hky
  obtain⟨q1,q2⟩:=qc (P:=(dD (kyR ar rc) P j).1) (k:=kyR ar rc j)
  refine⟨_,?_,rfl⟩
  unfold bV
  rw[bH,hx,bE,ud,← hky,bE]
  show _=some (Sum.inr (Sum.inr (addR (dD (kyR ar rc) P j).1 (kyR ar rc j),(dD (kyR ar rc) P j).2++[atR (dD (kyR ar rc) P j).1 (kyR ar rc j)])))
  by_cases hc:n9 (dD (kyR ar rc) P j).1 (kyR ar rc j)<0
  · obtain⟨e1,e2⟩:=q1 hc
    rw[decide_eq_true hc,cond_true,appL (by simp;omega) rfl,bE,List.nil_append,app1 (by omega) rfl,bE,bE]
    dsimp only
    rw[app1 (by omega) rfl,bE,e1,e2,← hky]
  · obtain⟨e1,e2⟩:=q2 hc
    rw[decide_eq_false hc,cond_false,bE]
    dsimp only
    rw[app1 (by omega) rfl,bE,e1,e2])
 rw[h1,h2]
end
end Go.Proofs.YtleekpaohfpooaaGreat
set_option linter.unusedVariables false
set_option linter.unusedSimpArgs false
namespace Go.Proofs.YtleekpaohfpooaaGreat
open Go Go.Wk Go.Proofs
theorem rI {a:Arena}(ha:dz a=true):cA ⟨a,sh a.Owner.length 0⟩=true:=by
 unfold cA
 dsimp only
 rw[ha,List.length_replicate,beq_self_eq_true,Bool.true_and,Bool.true_and,List.all_eq_true]
 intro x hx
 rw[(List.mem_replicate.1 hx).2];rfl
theorem qJ {a:Arena}(ha:dz a=true):1<=a.Owner.length/\a.Owner.length<=256/\(∀(i:Nat) row,a.Next[i]? =some row->1<=row.length/\row.length<=16)/\(∀o∈a.Owner,inR 2 o=true) /\
 ∀v:Int,0<=v->v<(a.Owner.length:Int)->∃ar o,idx a.Next v=some ar/\idx a.Owner v=some o/\1<=ar.length/\ar.length<=16/\Asc ar/\∀u∈ar,0<=u/\u<(a.Owner.length:Int):=by
 have hp:=rI ha
 obtain⟨h1,h2,h3,_,h5⟩:=dp hp
 dsimp only at h1 h2 h3 h5
 refine⟨h1,h2,λi row hr=>⟨(h5 i row hr).1,(h5 i row hr).2.1⟩,(pM hp).1,λv v0 v1=>?_⟩
 obtain⟨ar,har,_⟩:=iI (xs:=a.Next) v0 (by omega)
 obtain⟨o,ho,_⟩:=iI (xs:=a.Owner) v0 v1
 have har':=har
 rw[cE v0]at har'
 obtain⟨r1,r2,r3⟩:=h5 _ ar har'
 obtain⟨r4,r5⟩:=fd.1 r3
 exact⟨ar,o,har,ho,r1,r2,r5,r4⟩
def ManyP (n k:Nat):Prop:=∃P:List Place,256<P.length/\P.Nodup/\∀v∈P,VOk n k v
section
variable {a:Arena}{ps:List Pair}{st:Place}(ha:dz a=true) (hk:ps.length<=4)
include ha hk
theorem vV (hv:VOk a.Owner.length ps.length st):(ca (dN a ps) (2 ^ 64) ([st],0,[],[],[])=some (.inl noRec)/\ca (bN a ps) (2 ^ 64) ([st],0,[],[],[])=some (.inl noRec)/\ManyP a.Owner.length ps.length) \/
 ∃s:List Place×Int×List Int×List (List Int)×List Int,ca (dN a ps) (2 ^ 64) ([st],0,[],[],[])=some (.inr s)/\ca (bN a ps) (2 ^ 64) ([st],0,[],[],[])=some (.inr s)/\RecG a ps st s.1 ⟨⟨s.2.2.1,s.2.2.2.1⟩,s.2.2.2.2⟩:=by
 obtain⟨_,_,_,_,hA⟩:=qJ ha
 obtain⟨o,t,w1,w2,w3⟩:=ot (f:=dN a ps) (g:=bN a ps) (λs t=>s=t/\∃i:Nat,s.2.1=(i:Int)/\RecS a ps st s.1 i s.2.2.1 s.2.2.2.1 s.2.2.2.2/\s.1.length<=256) (λs=>300-s.2.1.toNat) (λr r'=>r=noRec/\r'=noRec/\ManyP a.Owner.length ps.length)
  (λs t=>s=t/\RecG a ps st s.1 ⟨⟨s.2.2.1,s.2.2.2.1⟩,s.2.2.2.2⟩) (λs t ⟨e,i,hi,hR,hl⟩=>by
  subst e
  obtain⟨P,z,O,N,Q⟩:=s
  dsimp only at hi hR hl
  subst hi
  unfold dN bN
  dsimp only
  by_cases hlt:i<P.length
  · have hvi:P[i]? =some P[i]:=gs hlt
    generalize P[i]=v at hvi
    have hvo:=hR.inn v (yB hvi)
    obtain⟨ar,ow,har,how,l1,l2,hasc,hin⟩:=hA v.At hvo.a0 hvo.a1
    have hrc:=hvo.rl
    have hn17:=xJ (ps:=ps) (rc:=v.Record) hvo.rin (by omega) v.At
    have hp17:=yc (ps:=ps) (rc:=v.Record) hvo.rin (by omega) v.At
    have hnx:=sw ps v.At hvo.rl hvo.rin
    obtain⟨o1,u1,u2⟩:=xB (a:=a) (v:=v) (ar:=ar) (rc:=fg ps v.Record v.At) (P:=P) har l2 (by omega) hl
    have hi:=yj (ar:=ar) (rc:=fg ps v.Record v.At) (P:=P) l2 (by omega) (by omega)
    have hnd:=tO (ar:=ar) (rc:=fg ps v.Record v.At) (P:=P) (iG hasc)
    have rk:=lG (kyR ar (fg ps v.Record v.At)) P ar.length
    have hrl:=rk.rl
    obtain⟨S,t1,t2,t3,t4⟩:=vI hnd (by omega)
    have hsort:cu (dD (kyR ar (fg ps v.Record v.At)) P ar.length).2=some S:=by
     unfold cu
     rw[if_pos ⟨by omega,by omega⟩]
     exact congrArg some (rV (vL hnd) t2 λz=>by rw[List.mem_mergeSort,t4])
    have hstep:=hR.step hvi har hin how t2 (by rw[t3,hrl]) t4
    have e1:=hR.ol
    have e2:=hR.nl
    have e3:=hR.ql
    have hr1:gT v ps=some (fg ps v.Record v.At):=by
     unfold gT
     rw[wV,hn17];rfl
    have hr2:gU v ps=some (jM ps v.Record v.At):=by
     unfold gU
     rw[xl,hp17];rfl
    rw[decide_eq_true (show(i:Int)<(P.length:Int) by omega),cond_true,cond_true,bH,hvi,bE,bE,hn17,bE,u1,bE,hr1,bE,har,bE,hi,bE,bJ]
    match o1,u2 with
    | .inl r,⟨r1,r2⟩=>
     subst r1
     rw[decide_eq_true (show(256:Int)<((dD (kyR ar (fg ps v.Record v.At)) P ar.length).1.length:Int) by omega),cond_true]
     exact⟨_,_,rfl,rfl,rfl,rfl,_,r2,hstep.nod,hstep.inn⟩
    | .inr s,⟨r1,r2,r3⟩=>
     rw[bJ,r1,r2,t1,how,bE,decide_eq_false (show ¬(256:Int)<((dD (kyR ar (fg ps v.Record v.At)) P ar.length).1.length:Int) by omega),cond_false,hsort,hr2]
     simp only[bE]
     unfold jw
     dsimp only
     rw[app1 (xs:=O) (by omega) rfl,app1 (xs:=N) (by omega) rfl,hp17]
     simp only[bE]
     rw[app1 (xs:=Q) (by omega) rfl,wr' (by omega) (by omega)]
     refine⟨_,_,rfl,rfl,⟨rfl,i+1,by dsimp only;omega,hstep,r3⟩,?_⟩
     dsimp only
     omega
  · rw[decide_eq_false (show ¬(i:Int)<(P.length:Int) by omega),cond_false,cond_false]
    have hil:=hR.il
    have:i=P.length:=by omega
    subst this
    exact⟨_,_,rfl,rfl,rfl,hR,hl⟩) (2 ^ 64) (2 ^ 64) ([st],0,[],[],[]) ([st],0,[],[],[]) (by dsimp only;omega) (by dsimp only;omega) ⟨rfl,0,rfl,RecS.init hv,by simp⟩
 match o,t,w3 with
 | .inl r,.inl r',w3=>
  rw[w3.1]at w1
  rw[w3.2.1]at w2
  exact .inl ⟨w1,w2,w3.2.2⟩
 | .inr s,.inr t,⟨e,hG⟩=>
  subst e
  exact .inr ⟨s,w1,w2,hG⟩
end
theorem xi (k:Nat):cntM dM k 0 []=some (.inr (firstR k))\/1000<k:=by
 by_cases hk:1000<k
 · exact .inr hk
 · obtain⟨s,h1,h2⟩:=bX (f:=dM) (λj s=>s=firstR j) k (s:=[]) rfl (λj s hj e=>by
    subst e
    unfold dM
    rw[app1 (by unfold firstR;rw[yW,List.length_range];omega) rfl]
    exact⟨_,rfl,by unfold firstR;rw[List.range_succ,List.map_append];rfl⟩)
   exact .inl (by rw[h1,h2])
theorem qq {a:Arena}{ps:List Pair}{st:Int}(ha:dz a=true) (hp:pairsOk ps (a.Owner.length:Int)=true) (hb:∀x∈ps,x.Ask.length<=1000000000/\x.Give.length<=1000000000) (h0:0<=st) (h1:st<(a.Owner.length:Int)):
 (fl a ps st=some noRec/\dy a ps st=some noRec/\ManyP a.Owner.length ps.length)\/∃P g,RecG a ps ⟨st,firstR ps.length⟩ P g/\cA g=true/\fl a ps st=some (g,P,true)/\dy a ps st=some (g,P,true):=by
 obtain⟨n1,n2,n3,n4,_⟩:=qJ ha
 have hk:ps.length<=4:=by
  unfold pairsOk at hp
  rw[yH,decide_eq_true_eq]at hp
  omega
 have hf:cntM dM ps.length 0 []=some (.inr (firstR ps.length)):=(xi ps.length).resolve_right (by omega)
 have hf':cntM iN ps.length 0 []=some (.inr (firstR ps.length)):=hf
 have hv:VOk a.Owner.length ps.length ⟨st,firstR ps.length⟩:=⟨h0,h1,by unfold firstR;rw[yW,List.length_range],λx hx=>by
  unfold firstR at hx
  obtain⟨i,hi,e⟩:=List.mem_map.1 hx
  have:=List.mem_range.1 hi
  have e:(i:Int)=x:=e
  omega,sa _⟩
 unfold fl dy ci
 rw[nN,ha,bE,yJ,cond_false,m0 (by omega) (by omega) hb,hp,bE,bE,yJ,cond_false,dc,wr' (by omega) (by omega),decide_eq_true h0,decide_eq_true (show st<=(a.Owner.length:Int)-1 by omega),Bool.and_self,bE,bE,yJ,cond_false,hf,hf',bE,bE,bJ,bJ]
 rcases vV ha hk hv with ⟨w1,w2,w3⟩ | ⟨s,w1,w2,hG⟩
 · left
   rw[w1,w2]
   exact⟨rfl,rfl,w3⟩
 · right
   rw[w1,w2]
   exact⟨s.1,_,hG,hG.ok ha n4 n3 hk,rfl,rfl⟩
end Go.Proofs.YtleekpaohfpooaaGreat
set_option linter.unusedVariables false
set_option linter.unusedSimpArgs false
namespace Go.Proofs.YtleekpaohfpooaaGreat
open Go Go.Wk Go.Proofs
theorem nG {zs:List Int}{j:Nat}(h:j<zs.length):zs.toArray[j]! =zs[j]:=by
 rw[getElem!_pos _ j (by simpa using h)]
 simp
theorem nK {zs:List Int}(h:zs.Pairwise (·<=·)):∀m:Nat,m<=zs.length->Asc (Lib.compactUpTo zs.toArray m)/\∀z,z∈Lib.compactUpTo zs.toArray m↔∃j:Nat,j<m/\zs[j]? =some z
 | 0,_=>⟨by simp[Lib.compactUpTo,Asc],λz=>by simp[Lib.compactUpTo]⟩
 | m+1,hm=>by
  obtain⟨a1,a2⟩:=nK h m (by omega)
  have hmono:∀(i j:Nat) (hi:i<zs.length) (hj:j<zs.length),i<=j->zs[i]<=zs[j]:=λi j hi hj hij=>by
   rcases Nat.lt_or_ge i j with c | c
   · exact(List.pairwise_iff_getElem.1 h) i j hi hj c
   · have:i=j:=by omega
     subst this
     exact Int.le_refl _
  rw[Lib.compactUpTo_succ,nG (show m<zs.length by omega)]
  have e1:zs[m]? =some zs[m]:=gs (by omega)
  cases hk:Lib.keeps zs.toArray m with
  | true=>
   rw[if_pos rfl]
   refine⟨List.pairwise_append.2 ⟨a1,List.pairwise_singleton ..,λx hx y hy=>?_⟩,λz=>?_⟩
   · rw[yM.1 hy]
     obtain⟨j,j1,j2⟩:=(a2 x).1 hx
     rw[gs (show j<zs.length by omega)]at j2
     have hx:=Option.some.inj j2
     have hne:zs[m]≠zs[m-1]'(by omega):=λe=>by
      unfold Lib.keeps at hk
      rw[decide_eq_true_eq,nG (show m<zs.length by omega),nG (show m-1<zs.length by omega)]at hk
      rcases hk with hk | hk
      · omega
      · exact hk e
     have l1:=hmono j (m-1) (by omega) (by omega) (by omega)
     have l2:=hmono (m-1) m (by omega) (by omega) (by omega)
     omega
   · rw[yT,yM,a2]
     constructor
     · rintro(⟨j,j1,j2⟩ | rfl)
       · exact⟨j,by omega,j2⟩
       · exact⟨m,by omega,e1⟩
     · rintro⟨j,j1,j2⟩
       by_cases e:j=m
       · subst e
         rw[e1]at j2
         exact .inr (Option.some.inj j2).symm
       · exact .inl ⟨j,by omega,j2⟩
  | false=>
   rw[if_neg (by simp),List.append_nil]
   refine⟨a1,λz=>?_⟩
   rw[a2]
   constructor
   · rintro⟨j,j1,j2⟩
     exact⟨j,by omega,j2⟩
   · rintro⟨j,j1,j2⟩
     by_cases e:j=m
     · subst e
       have hk':¬(j=0\/zs.toArray[j]!≠zs.toArray[j-1]!):=λhh=>by
        unfold Lib.keeps at hk
        rw[decide_eq_true hh]at hk
        cases hk
       rw[nG (show j<zs.length by omega),nG (show j-1<zs.length by omega)]at hk'
       have h0:j≠0:=λe=>hk' (.inl e)
       have h1:zs[j]=zs[j-1]'(by omega):=Classical.byContradiction λe=>hk' (.inr e)
       refine⟨j-1,by omega,?_⟩
       rw[gs (show j-1<zs.length by omega),← h1,← e1,j2]
     · exact⟨j,by omega,j2⟩
theorem sO {zs:List Int}(h:zs.Pairwise (·<=·)):Asc (Lib.compact zs)/\∀z,z∈Lib.compact zs↔z∈zs:=by
 obtain⟨a,b⟩:=nK h zs.length (Nat.le_refl _)
 refine⟨a,λz=>?_⟩
 unfold Lib.compact
 rw[b]
 constructor
 · rintro⟨j,_,h⟩;exact yB h
 · intro hz
   obtain⟨j,hj⟩:=List.getElem?_of_mem hz
   exact⟨j,(hV.1 hj).1,hj⟩
end Go.Proofs.YtleekpaohfpooaaGreat
set_option linter.unusedVariables false
set_option linter.unusedSimpArgs false
namespace Go.Proofs.YtleekpaohfpooaaGreat
open Go Go.Wk Go.Proofs
theorem pW {p:Sig}(hs:sigOk p=true){x o:Int}(x0:0<=x) (x1:x<pw p.In) (o0:0<=o) (o1:o<pw p.Out):jX p x o=some (o * pw p.In+x):=by
 have pI:=iZ p.In
 have pO:=iZ p.Out
 obtain⟨hi,ho⟩:=dI hs
 have hmul:0<=o * pw p.In:=Int.mul_nonneg o0 (by omega)
 have hmul2:o * pw p.In<=4 * 4:=Int.mul_le_mul (by omega) (by omega) (by omega) (by omega)
 unfold jX
 simp only[dP,hs,bE,yJ,cond_false,dm hi,dm ho]
 rw[wr' (z:=pw p.In-1) (by omega) (by omega),wr' (z:=pw p.Out-1) (by omega) (by omega),wr' (z:=o * pw p.In) (by omega) (by omega),wr' (by omega) (by omega)]
 simp only[dc,uq,bE,cQ.2 ⟨x0,x1⟩,cQ.2 ⟨o0,o1⟩,yJ,cond_false]
end Go.Proofs.YtleekpaohfpooaaGreat
set_option linter.unusedVariables false
set_option linter.unusedSimpArgs false
namespace Go.Proofs.YtleekpaohfpooaaGreat
open Go Go.Wk Go.Proofs
theorem iO {p:Sig}(hs:sigOk p=true):dL p=some (pw p.In):=by
 obtain⟨hi,_⟩:=dI hs
 unfold dL
 rw[(pd hi).1,bE,(pd hi).2]
end Go.Proofs.YtleekpaohfpooaaGreat
set_option linter.unusedVariables false
set_option linter.unusedSimpArgs false
namespace Go.Proofs.YtleekpaohfpooaaGreat
open Go Go.Wk Go.Proofs
theorem nt:∀{xs ys:List Int},xs.Nodup->(∀x∈xs,x∈ys)->xs.length<=ys.length
 | [],_,_,_=>Nat.zero_le _
 | x::xs,ys,hn,h=>by
  obtain⟨h1,h2⟩:=List.nodup_cons.1 hn
  have hx:=h x (List.mem_cons_self ..)
  have:=nt (ys:=ys.erase x) h2 λz hz=>(List.mem_erase_of_ne (λe=>h1 (by rw[← e];exact hz))).2 (h z (List.mem_cons_of_mem _ hz))
  have h3:=List.length_pos_of_mem hx
  rw[List.length_erase_of_mem hx]at this
  simp only[yO]
  omega
theorem xN {m q q' i i':Nat}(hi:i<m) (hi':i'<m) (h:q * m+i=q' * m+i'):q=q'/\i=i':=by
 have hlt:∀{a b:Nat},a<b->a * m+m<=b * m:=λ{a b} h=>by
  have:=Nat.mul_le_mul_right m (show a+1<=b by omega)
  rwa [Nat.add_mul,Nat.one_mul]at this
 by_cases h1:q<q'
 · have:=hlt h1;omega
 · by_cases h2:q'<q
   · have:=hlt h2;omega
   · have:q=q':=by omega
     subst this
     exact⟨rfl,by omega⟩
theorem qU {n m q i:Nat}(hq:q<n) (hi:i<m):q * m+i<n * m:=by
 have:=Nat.mul_le_mul_right m (show q+1<=n by omega)
 rw[Nat.add_mul,Nat.one_mul]at this
 omega
def SuccR (d:Det) (m k q i:Nat) (r:List Int):Prop:=Asc r/\∀z,z∈r↔∃o:Nat,o<k/\z=tab d.Next q ((o * m+i:Nat):Int)
theorem SuccR.uniq {d:Det}{m k q i:Nat}{r r':List Int}(h:SuccR d m k q i r) (h':SuccR d m k q i r'):r=r':=rV h.1 h'.1 λz=>by rw[h.2,h'.2]
def rowQ (n m q:Nat):List Int:=(List.range m).map λi=>((n+q * m+i:Nat):Int)
structure ConA (d:Det) (n m k:Nat) (A:Arena):Prop where
 ol:A.Owner=sh n 1++sh (n * m) 0
 nl:A.Next.length=n+n * m
 r1:∀q:Nat,q<n->A.Next[q]? =some (rowQ n m q)
 r0:∀q i:Nat,q<n->i<m->∃r,A.Next[n+(q * m+i)]? =some r/\SuccR d m k q i r
section
variable {d:Det}{n m k:Nat}(hn:n<=48) (hn1:1<=n) (hm1:1<=m) (hm:m<=4) (hk1:1<=k) (hk:k<=4) (hd:d.Next.length=n) (hD:∀row∈d.Next,RowIn (n:Int) ((m * k:Nat):Int) row)
include hn hn1 hm1 hm hk1 hk hd hD
omit hn hn1 hk1 hk in
theorem nI {q i o:Nat}(hq:q<n) (hi:i<m) (ho:o<k):∃row,idx d.Next (q:Int)=some row/\idx row ((o * m+i:Nat):Int)=some (tab d.Next q ((o * m+i:Nat):Int))/\0<=tab d.Next q ((o * m+i:Nat):Int)/\tab d.Next q ((o * m+i:Nat):Int)<(n:Int):=by
 have h1:=qU (n:=k) ho hi
 have h2:k * m=m * k:=Nat.mul_comm _ _
 exact lj hD (by omega) (by omega) (by omega) (by omega)
theorem ye {A:Arena}(h:ConA d n m k A):dz A=true:=by
 have hnm:n * m<=48 * 4:=Nat.mul_le_mul hn hm
 have hol:A.Owner.length=n+n * m:=by rw[h.ol];simp
 have hnl:=h.nl
 unfold dz
 simp only[yH,decide_eq_true_eq,beq_iff_eq]
 refine⟨⟨⟨by omega,by omega⟩,by omega⟩,?_⟩
 rw[List.all_eq_true]
 rintro⟨row,j⟩ hx
 have hx:=List.mem_zipIdx_iff_getElem?.1 hx
 dsimp only at hx ⊢
 have hlt:=(hV.1 hx).1
 unfold vertOk
 by_cases hj:j<n
 · have ho:A.Owner[j]? =some 1:=by
    rw[h.ol,List.getElem?_append_left (by simpa using hj),yF,if_pos hj]
   rw[h.r1 j hj]at hx
   cases hx
   have hl:(rowQ n m j).length=m:=by unfold rowQ;rw[yW,List.length_range]
   have hs:cK (A.Owner.length:Int) (rowQ n m j)=true:=by
    refine fd.2 ⟨λx hx=>?_,?_⟩
    · unfold rowQ at hx
      obtain⟨i,hi,e⟩:=List.mem_map.1 hx
      have:=List.mem_range.1 hi
      have:=qU (n:=n) (m:=m) hj this
      omega
    · unfold rowQ
      refine List.pairwise_map.2 (List.Pairwise.imp (λ{a b} hab=>?_) List.pairwise_lt_range)
      omega
   rw[ho,hs,hl]
   simp only[Bool.and_true,yH,decide_eq_true_eq]
   exact⟨⟨by decide,by omega⟩,by omega⟩
 · have hjm:j-n<n * m:=by omega
   have hq:(j-n) / m<n:=(Nat.div_lt_iff_lt_mul (by omega)).2 hjm
   have hi:(j-n) % m<m:=Nat.mod_lt _ (by omega)
   have e:(j-n) / m * m+(j-n) % m=j-n:=by rw[Nat.mul_comm];exact Nat.div_add_mod _ _
   obtain⟨r,r1,r2,r3⟩:=h.r0 _ _ hq hi
   rw[e,show n+(j-n)=j by omega,hx]at r1
   cases r1
   have ho:A.Owner[j]? =some 0:=by
    rw[h.ol,List.getElem?_append_right (by simp;omega),List.length_replicate,yF,if_pos hjm]
   have hin:∀x∈row,0<=x/\x<(n:Int):=λx hx=>by
    obtain⟨o,ho,e⟩:=(r3 x).1 hx
    obtain⟨_,_,_,a,b⟩:=nI hm1 hm hd hD hq hi ho
    rw[e];exact⟨a,b⟩
   have hs:cK (A.Owner.length:Int) row=true:=fd.2 ⟨λx hx=>by have:=hin x hx;omega,r2⟩
   have hne:1<=row.length:=List.length_pos_of_mem ((r3 _).2 ⟨0,by omega,rfl⟩)
   have hle:row.length<=k:=by
    -- each is one of k
    have h3:=nt (ys:=(List.range k).map λo=>tab d.Next ((j-n) / m:Nat) ((o * m+(j-n) % m:Nat):Int)) (iG r2) λz hz=>by
     obtain⟨o,ho,e⟩:=(r3 z).1 hz
     exact List.mem_map.2 ⟨o,List.mem_range.2 ho,e.symm⟩
    rwa [yW,List.length_range]at h3
   rw[ho,hs]
   simp only[Bool.and_true,yH,decide_eq_true_eq]
   exact⟨⟨by decide,by omega⟩,by omega⟩
end
end Go.Proofs.YtleekpaohfpooaaGreat
set_option linter.unusedVariables false
set_option linter.unusedSimpArgs false
namespace Go.Proofs.YtleekpaohfpooaaGreat
open Go Go.Wk Go.Proofs
theorem tf {p:Sig}(hs:sigOk p=true):iX p=some (pw p.In):=by
 unfold iX
 rw[dm (dI hs).1];rfl
section
variable {p:Sig}{d:Det}(hs:sigOk p=true){n m k:Nat}(hn:n<=48) (hn1:1<=n) (hm:pw p.In=(m:Int)) (hk:pw p.Out=(k:Int)) (hd:d.Next.length=n) (hD:∀row∈d.Next,RowIn (n:Int) ((m * k:Nat):Int) row)
include hs hn hm hk hd hD
omit hn in
theorem wx {q i:Nat}(hq:q<n) (hi:i<m):∃r,j6 p d q i=some r/\SuccR d m k q i r:=by
 have m1:=iZ p.In
 have k1:=iZ p.Out
 unfold j6
 obtain⟨o,w1,w2⟩:=cB (f:=gq p d q i) (λj (s:List Int×Int)=>s.2=(j:Int)/\j<=k/\Asc s.1/\s.1.length<=j/\∀z,z∈s.1↔∃o:Nat,o<j/\z=tab d.Next q ((o * m+i:Nat):Int)) (λ_=>False) (λs=>SuccR d m k q i s.1) k (λj s ⟨e1,hj,a1,a2,a3⟩=>by
  obtain⟨xs,o⟩:=s
  dsimp only at e1 a1 a2 a3
  subst e1
  unfold gq
  rw[dm (dI hs).2,bE,hk]
  dsimp only
  by_cases hlt:j<k
  · obtain⟨row,r1,r2,_⟩:=nI (d:=d) (k:=k) (by omega) (by omega) hd hD hq hi hlt
    obtain⟨R,t1,t2,t3⟩:=vw a1 (tab d.Next q ((j * m+i:Nat):Int)) (by omega)
    have hlet:=pW hs (x:=(i:Int)) (o:=(j:Int)) (by omega) (by omega) (by omega) (by omega)
    have e:(j:Int) * (m:Int)+(i:Int)=((j * m+i:Nat):Int):=by simp
    rw[hm,e]at hlet
    rw[decide_eq_true (show(j:Int)<(k:Int) by omega),cond_true,r1,bE,hlet,bE,r2,bE,t1,bE,wr' (by omega) (by omega)]
    have hRl:R.length<=xs.length+1:=nt (ys:=tab d.Next q ((j * m+i:Nat):Int)::xs) (iG t2) λz hz=>by
     rcases(t3 z).1 hz with h | h
     · rw[h];exact List.mem_cons_self ..
     · exact List.mem_cons_of_mem _ h
    refine⟨_,rfl,by omega,by dsimp only;omega,by omega,t2,by dsimp only;omega,λz=>?_⟩
    dsimp only
    rw[t3,a3]
    constructor
    · rintro(h | ⟨o,o1,o2⟩)
      · exact⟨j,by omega,h⟩
      · exact⟨o,by omega,o2⟩
    · rintro⟨o,o1,o2⟩
      by_cases e:o=j
      · subst e;exact .inl o2
      · exact .inr ⟨o,by omega,o2⟩
  · have:j=k:=by omega
    subst this
    rw[decide_eq_false (show ¬((j:Nat):Int)<(j:Int) by omega),cond_false]
    exact⟨_,rfl,a1,a3⟩) (2 ^ 64) 0 ([],0) (by omega) ⟨rfl,Nat.zero_le _,List.Pairwise.nil,Nat.le_refl _,λz=>by simp⟩ (by omega)
 match o,w2 with
 | .inr s,h=>rw[w1];exact⟨s.1,rfl,h⟩
omit hn hs in
theorem wJ {q i:Nat}(hq:q<n) (hi:i<m):∃xs r,cntM (d7 d (m:Int) q i) k 0 []=some (.inr xs)/\0<xs.length/\xs.length<=4/\cu xs=some (xs.mergeSort λx y=>decide (x<=y))/\cT (xs.mergeSort λx y=>decide (x<=y))=some r/\SuccR d m k q i r:=by
 have m1:=iZ p.In
 have k1:=iZ p.Out
 obtain⟨xs,h1,h2,h3⟩:=bX (f:=d7 d (m:Int) q i) (λj (s:List Int)=>s.length=j/\∀z,z∈s↔∃o:Nat,o<j/\z=tab d.Next q ((o * m+i:Nat):Int)) k (s:=[]) ⟨rfl,λz=>by simp⟩ (λj s hj ⟨a1,a2⟩=>by
  obtain⟨row,r1,r2,_⟩:=nI (d:=d) (k:=k) (by omega) (by omega) hd hD hq hi hj
  have hb:j * m<=4 * 4:=Nat.mul_le_mul (by omega) (by omega)
  have e:(j:Int) * (m:Int)=((j * m:Nat):Int):=by simp
  unfold d7
  rw[r1,bE,e,wr' (z:=((j * m:Nat):Int)) (by omega) (by omega),wr' (by omega) (by omega),show((j * m:Nat):Int)+(i:Int)=((j * m+i:Nat):Int) by omega,r2,bE,app1 (by omega) rfl]
  refine⟨_,rfl,by rw[yK,a1];rfl,λz=>?_⟩
  rw[yT,yM,a2]
  constructor
  · rintro(⟨o,o1,o2⟩ | h)
    · exact⟨o,by omega,o2⟩
    · exact⟨j,by omega,h⟩
  · rintro⟨o,o1,o2⟩
    by_cases e:o=j
    · subst e;exact .inr o2
    · exact .inl ⟨o,by omega,o2⟩)
 have hpw:(xs.mergeSort λx y=>decide (x<=y)).Pairwise (·<=·):=by
  have h:=List.pairwise_mergeSort (le:=λx y:Int=>decide (x<=y)) (λa b c h1 h2=>by simp only[decide_eq_true_eq]at *;omega) (λa b=>by simp only[Bool.or_eq_true,decide_eq_true_eq];omega) xs
  exact h.imp λh=>by simpa using h
 have hml:(xs.mergeSort λx y=>decide (x<=y)).length=xs.length:=List.length_mergeSort ..
 obtain⟨c1,c2⟩:=sO hpw
 refine⟨xs,_,h1,by omega,by omega,?_,?_,c1,λz=>?_⟩
 · unfold cu
   rw[if_pos ⟨by omega,by omega⟩]
 · unfold cT
   rw[if_pos ⟨by omega,by omega⟩]
 · rw[c2,List.mem_mergeSort,h3]
omit hs hk hD in
theorem uY:cntM (dW d (m:Int)) n 0 ([],[])=some (.inr (sh n 1,(List.range n).map (rowQ n m)))/\cntM (ey d (m:Int)) n 0 ([],[])=some (.inr (sh n 1,(List.range n).map (rowQ n m))):=by
 have m1:=iZ p.In
 have hr:rng (m:Int)=some ():=by unfold rng;rw[if_pos (by omega)]
 have hin:∀q:Nat,q<n->cntM (ee d (m:Int) q) m 0 []=some (.inr (rowQ n m q))/\cntM (ed d (m:Int) q) m 0 []=some (.inr (rowQ n m q)):=λq hq=>by
  have hb:q * m<=48 * 4:=Nat.mul_le_mul (by omega) (by omega)
  have e:(q:Int) * (m:Int)=((q * m:Nat):Int):=by simp
  have hv:∀j:Nat,j<m->IntKind.i64.wrap (IntKind.i64.wrap ((d.Next.length:Int)+IntKind.i64.wrap ((q:Int) * (m:Int)))+(j:Int))=((n+q * m+j:Nat):Int):=λj hj=>by
   rw[e,wr' (z:=((q * m:Nat):Int)) (by omega) (by omega),wr' (z:=(d.Next.length:Int)+((q * m:Nat):Int)) (by omega) (by omega),wr' (by omega) (by omega)]
   omega
  have hl:∀j:Nat,((List.range j).map λi=>((n+q * m+i:Nat):Int)).length=j:=λj=>by rw[yW,List.length_range]
  constructor
  · obtain⟨s,h1,h2⟩:=bX (f:=ee d (m:Int) q) (λj s=>s=(List.range j).map λi=>((n+q * m+i:Nat):Int)) m (s:=[]) rfl (λj s hj e=>by
     subst e
     unfold ee
     rw[hv j hj,app1 (by rw[hl];omega) rfl]
     exact⟨_,rfl,by rw[List.range_succ,List.map_append];rfl⟩)
    rw[h1,h2];rfl
  · obtain⟨s,h1,h2⟩:=bX (f:=ed d (m:Int) q) (λj s=>s=(List.range j).map λi=>((n+q * m+i:Nat):Int)) m (s:=[]) rfl (λj s hj e=>by
     subst e
     unfold ed
     rw[hv j hj,app1 (by rw[hl];omega) rfl]
     exact⟨_,rfl,by rw[List.range_succ,List.map_append];rfl⟩)
    rw[h1,h2];rfl
 have hm0:yG ((m:Int)-0)=m:=by omega
 constructor
 · obtain⟨s,h1,h2⟩:=bX (f:=dW d (m:Int)) (λj s=>s=(sh j 1,(List.range j).map (rowQ n m))) n (s:=([],[])) rfl (λj s hj e=>by
    subst e
    unfold dW
    dsimp only
    rw[hr,bE,hm0,(hin j hj).1,bE,bJ,app1 (by simp;omega) rfl,bE,app1 (by simp;omega) rfl,bE]
    exact⟨_,rfl,by rw[List.replicate_succ',List.range_succ,List.map_append];rfl⟩)
   rw[h1,h2]
 · obtain⟨s,h1,h2⟩:=bX (f:=ey d (m:Int)) (λj s=>s=(sh j 1,(List.range j).map (rowQ n m))) n (s:=([],[])) rfl (λj s hj e=>by
    subst e
    unfold ey
    dsimp only
    rw[hr,bE,hm0,(hin j hj).2,bE,bJ,app1 (by simp;omega) rfl,bE,app1 (by simp;omega) rfl,bE]
    exact⟨_,rfl,by rw[List.replicate_succ',List.range_succ,List.map_append];rfl⟩)
   rw[h1,h2]
def ConR (d:Det) (n m k c:Nat) (s:List Int×List (List Int)):Prop:=s.1=sh n 1++sh c 0/\∃R,s.2=(List.range n).map (rowQ n m)++R/\R.length=c/\∀q i:Nat,q<n->i<m->q * m+i<c->∃r,R[q * m+i]? =some r/\SuccR d m k q i r
theorem tt:∃s,cntM (eo p d (m:Int)) n 0 (sh n 1,(List.range n).map (rowQ n m))=some (.inr s)/\cntM (dZ p d (m:Int)) n 0 (sh n 1,(List.range n).map (rowQ n m))=some (.inr s)/\ConR d n m k (n * m) s:=by
 have m1:=iZ p.In
 have k1:=iZ p.Out
 have hr:rng (m:Int)=some ():=by unfold rng;rw[if_pos (by omega)]
 have hrk:rng (k:Int)=some ():=by unfold rng;rw[if_pos (by omega)]
 have hm0:yG ((m:Int)-0)=m:=by omega
 have hk0:yG ((k:Int)-0)=k:=by omega
 obtain⟨sh1,sh2⟩:=pd (dI hs).2
 rw[hk]at sh2
 have hnm:n * m<=48 * 4:=Nat.mul_le_mul hn (by omega)
 obtain⟨s,t,h1,h2,h3,h4⟩:=rJ (f:=eo p d (m:Int)) (g:=dZ p d (m:Int)) (λq s t=>s=t/\ConR d n m k (q * m) s) n (s:=(sh n 1,(List.range n).map (rowQ n m))) (t:=(sh n 1,(List.range n).map (rowQ n m))) ⟨rfl,by rw[Nat.zero_mul];exact⟨by simp,[],by simp,rfl,λq i _ _ h=>absurd h (Nat.not_lt_zero _)⟩⟩ (λq s t hq ⟨e,hC⟩=>by
  subst e
  obtain⟨s',t',g1,g2,g3,g4⟩:=rJ (f:=dX p d q) (g:=dY p d (m:Int) q) (λi s t=>s=t/\ConR d n m k (q * m+i) s) m (s:=s) (t:=s) ⟨rfl,hC⟩ (λi s t hi ⟨e,hC⟩=>by
   subst e
   obtain⟨c1,R,c2,c3,c4⟩:=hC
   obtain⟨r,r1,r2⟩:=wx hs hm hk hd hD hq hi
   obtain⟨xs,r',x1,x2,x3,x4,x5,x6⟩:=wJ hm hk hd hD hq hi
   have:=r2.uniq x6
   subst this
   have hlt:=qU (n:=n) hq hi
   have l1:s.1.length=n+(q * m+i):=by rw[c1];simp
   have l2:s.2.length=n+(q * m+i):=by rw[c2];simp[c3]
   unfold dX dY
   rw[app1 (xs:=s.1) (by omega) rfl,r1,sh1,sh2,hrk,hk0,x1]
   simp only[bE,bJ]
   rw[x4,app1 (xs:=s.2) (by omega) rfl]
   simp only[bE]
   rw[x5,bE,app1 (xs:=s.2) (by omega) rfl,bE]
   refine⟨_,_,rfl,rfl,rfl,?_,R++[r],?_,by rw[yK,c3];rfl,λq' i' hq' hi' hlt'=>?_⟩
   · dsimp only
     rw[c1,← Nat.add_assoc,List.replicate_succ',List.append_assoc]
   · dsimp only
     rw[c2,List.append_assoc]
   · by_cases e:q' * m+i'=q * m+i
     · obtain⟨e1,e2⟩:=xN hi' hi e
       subst e1 e2
       exact⟨r,by rw[← c3];simp,r2⟩
     · obtain⟨r0,a,b⟩:=c4 q' i' hq' hi' (by omega)
       exact⟨r0,by rw[List.getElem?_append_left (by omega)];exact a,b⟩)
  subst g3
  unfold eo dZ
  rw[hr,bE,bE,hm0]
  have g1':cntM (dX p d q) m 0 (s.1,s.2)=some (.inr s'):=g1
  have g2':cntM (dY p d (m:Int) q) m 0 (s.1,s.2)=some (.inr s'):=g2
  rw[g1',g2',bE,bE,bJ,bJ]
  exact⟨_,_,rfl,rfl,rfl,by rw[Nat.add_mul,Nat.one_mul];exact g4⟩)
 subst h3
 exact⟨s,h1,h2,h4⟩
end
theorem copyPairs {ps:List Pair}(hl:ps.length<=4) (hb:∀x∈ps,x.Ask.length<=1000000000/\x.Give.length<=1000000000) (X:Det) (hX:X.Pairs=ps):cntM (eg X) ps.length 0 []=some (.inr ps)/\cntM (dG X) ps.length 0 []=some (.inr ps):=by
 constructor
 · obtain⟨s,h1,h2⟩:=bX (f:=eg X) (λj s=>s=ps.take j) ps.length (s:=[]) rfl (λj s hj e=>by
    subst e
    have hx:ps[j]? =some ps[j]:=gs hj
    generalize ps[j]=x at hx
    obtain⟨b1,b2⟩:=hb x (yB hx)
    have cp:∀{xs:List Int},xs.length<=1000000000->da xs=some xs:=λ{xs} h=>by
     unfold da
     rw[appL (by rw[yQ];omega) rfl];rfl
    unfold eg
    rw[hX,bH,hx,bE,bE,cp b1,bE,cp b2,bE,app1 (by rw[yP];omega) rfl]
    exact⟨_,rfl,by rw[yU,hx];rfl⟩)
   rw[h1,h2,List.take_length]
 · obtain⟨s,h1,h2⟩:=bX (f:=dG X) (λj s=>s=ps.take j) ps.length (s:=[]) rfl (λj s hj e=>by
    subst e
    have hx:ps[j]? =some ps[j]:=gs hj
    generalize ps[j]=x at hx
    obtain⟨b1,b2⟩:=hb x (yB hx)
    unfold dG lK
    rw[hX,bH,hx,bE,appL (by rw[yQ];omega) rfl,bE,appL (by rw[yQ];omega) rfl,bE,bE,app1 (by rw[yP];omega) rfl]
    exact⟨_,rfl,by rw[yU,hx];rfl⟩)
   rw[h1,h2,List.take_length]
theorem rT {p:Sig}{d:Det}(hs:sigOk p=true) (hd:detOk p d=true):∃(n m k:Nat) (A:Arena),d.Next.length=n/\pw p.In=(m:Int)/\pw p.Out=(k:Int)/\1<=n/\n<=48/\1<=m/\m<=4/\1<=k/\k<=4/\(∀row∈d.Next,RowIn (n:Int) ((m * k:Nat):Int) row)/\(∀x∈d.Pairs,x.Ask.length<=1000000000/\x.Give.length<=1000000000)/\ConA d n m k A/\fi p d=some (A,d.Pairs,true)/\eF p d=some (A,d.Pairs):=by
 obtain⟨h1,h2,h3,h4⟩:=iy hd
 have m1:=iZ p.In
 have k1:=iZ p.Out
 obtain⟨m,hm⟩:=ew (z:=pw p.In) (by omega)
 obtain⟨k,hk⟩:=ew (z:=pw p.Out) (by omega)
 have hb:∀x∈d.Pairs,x.Ask.length<=1000000000/\x.Give.length<=1000000000:=λx hx=>by
  have hd':=hd
  unfold detOk at hd'
  simp only[yH]at hd'
  have hp:=hd'.1.2
  unfold pairsOk at hp
  rw[yH,List.all_eq_true]at hp
  have:=hp.2 x hx
  unfold pairOk at this
  rw[yH]at this
  have a1:=(St.of this.1).len
  have a2:=(St.of this.2).len
  omega
 have hD:∀row∈d.Next,RowIn (d.Next.length:Int) ((m * k:Nat):Int) row:=λrow hr=>by
  have:=h4 row hr
  unfold ltd at this
  rw[hm,hk]at this
  simpa using this
 obtain⟨f1,f2⟩:=uY h2 hm rfl
 obtain⟨s,s1,s2,c1,R,c2,c3,c4⟩:=tt hs h2 hm hk rfl hD
 obtain⟨p1,p2⟩:=copyPairs h3 hb d rfl
 refine⟨d.Next.length,m,k,⟨s.1,s.2⟩,rfl,hm,hk,h1,h2,by omega,by omega,by omega,by omega,hD,hb,⟨c1,?_,λq hq=>?_,λq i hq hi=>?_⟩,?_,?_⟩
 · show s.2.length=_
   rw[c2];simp[c3]
 · show s.2[q]? =_
   rw[c2,List.getElem?_append_left (by simpa using hq),List.getElem?_map,List.getElem?_range hq];rfl
 · obtain⟨r,r1,r2⟩:=c4 q i hq hi (qU hq hi)
   refine⟨r,?_,r2⟩
   show s.2[_]? =_
   rw[c2,List.getElem?_append_right (by simp),yW,List.length_range,Nat.add_sub_cancel_left]
   exact r1
 · unfold fi
   rw[ki hs hb,hd,bE,yJ,cond_false,tf hs,bE,hm,f1,bE,bJ]
   dsimp only
   rw[s1,bE,bJ,p1];rfl
 · unfold eF
   rw[iO hs,bE,hm,f2,bE,bJ]
   dsimp only
   rw[s2,bE,bJ,p2];rfl
end Go.Proofs.YtleekpaohfpooaaGreat
set_option linter.unusedVariables false
set_option linter.unusedSimpArgs false
namespace Go.Proofs.YtleekpaohfpooaaGreat
open Go Go.Wk Go.Proofs
def atP (P:List Place) (y:Int):Int:=match idx P y with | some v=>v.At | none=> -1
theorem fW {P:List Place}{y:Int}{v:Place}(h:idx P y=some v):atP P y=v.At:=by unfold atP;rw[h]
structure Cx (d:Det) (n m k:Nat) (A:Arena) (P:List Place) (g:Parity) (W:Int->Prop) (pk:List Int):Prop where
 n1:1<=n
 n48:n<=48
 m1:1<=m
 m4:m<=4
 k1:1<=k
 k4:k<=4
 dl:d.Next.length=n
 cell:∀row∈d.Next,RowIn (n:Int) ((m * k:Nat):Int) row
 con:ConA d n m k A
 rg:RecG A d.Pairs ⟨0,firstR d.Pairs.length⟩ P g
 ok:cA g=true
 sol:Solv g W pk
section
variable {d:Det}{n m k:Nat}{A:Arena}{P:List Place}{g:Parity}{W:Int->Prop}{pk:List Int}(h:Cx d n m k A P g W pk)
include h
theorem Cx.len:g.Prio.length=P.length/\g.Arena.Owner.length=P.length/\g.Arena.Next.length=P.length/\P.length<=256/\1<=P.length/\pk.length=P.length:=by
 have r:=h.rg.game
 have h1:=r.ol
 have h2:=r.nl
 have h3:=r.ql
 have h4:=h.sol.len
 have h5:=(hV.1 r.zero).1
 exact⟨h3,h1,h2,h.rg.le,by omega,by omega⟩
theorem Cx.place {x:Int}(hx:Xn P.length x):∃v,idx P x=some v/\0<=v.At/\v.At<((n+n * m:Nat):Int):=by
 obtain⟨v,hv,hm⟩:=iI (xs:=P) hx.1 hx.2
 have o:=h.rg.game.inn v hm
 have h2:=o.a1
 rw[h.con.ol,yK,List.length_replicate,List.length_replicate]at h2
 exact⟨v,hv,o.a0,h2⟩
theorem Cx.row {x:Int}{v:Place}(hv:idx P x=some v):∃r ar rc,idx g.Arena.Next x=some r/\idx A.Next v.At=some ar/\RowP P ar rc r/\idx g.Arena.Owner x=idx A.Owner v.At/\r.length<=16:=by
 obtain⟨x0,x1⟩:=(ff hv)
 obtain⟨i,hi⟩:=ew x0
 subst hi
 rw[bH]at hv
 have hlt:=(hV.1 hv).1
 obtain⟨b1,_,r,ar,b3,b4,b5⟩:=h.rg.game.row i v hlt hv
 refine⟨r,ar,_,by rw[bH];exact b3,b4,b5,by rw[bH];exact b1,?_⟩
 have:=(dp h.ok).2.2.2.2 i r b3
 exact this.2.1
omit h in
theorem nR {x y:Int}{r:List Int}(hr:idx g.Arena.Next x=some r):(gI g).E x y↔y∈r:=by
 show y∈cv g.Arena x↔_
 rw[dA hr]
theorem Cx.state {x:Int}{v:Place}(hv:idx P x=some v) (hs:v.At<(n:Int)):(gI g).own x=true/\∃(q:Nat) (r:List Int),v.At=(q:Int)/\q<n/\idx g.Arena.Next x=some r/\(∀y∈r,Xn P.length y/\∃i:Nat,i<m/\atP P y=((n+(q * m+i):Nat):Int))/\∀i:Nat,i<m->∃y∈r,atP P y=((n+(q * m+i):Nat):Int):=by
 obtain⟨v',hv',a0,_⟩:=h.place (x:=x) ⟨(ff hv).1,(ff hv).2.1⟩
 rw[hv]at hv'
 cases hv'
 obtain⟨q,hq⟩:=ew a0
 have hqn:q<n:=by omega
 obtain⟨r,ar,rc,r1,r2,r3,r4,_⟩:=h.row hv
 have hAr:ar=rowQ n m q:=by
  rw[hq,bH,h.con.r1 q hqn]at r2
  exact(Option.some.inj r2).symm
 subst hAr
 have how:idx g.Arena.Owner x=some 1:=by
  rw[r4,hq,bH,h.con.ol,List.getElem?_append_left (by simpa using hqn),yF,if_pos hqn]
 refine⟨?_,q,r,hq,hqn,r1,λy hy=>?_,λi hi=>?_⟩
 · show ownL _ x=true
   unfold ownL
   rw[how];rfl
 · obtain⟨y0,u,hu,e⟩:=r3.to y hy
   have hlt:=(hV.1 e).1
   unfold rowQ at hu
   obtain⟨i,hi,hu⟩:=List.mem_map.1 hu
   refine⟨⟨y0,by omega⟩,i,List.mem_range.1 hi,?_⟩
   rw[fW (by rw[cE y0];exact e),← hu,Nat.add_assoc]
 · obtain⟨y,hy,y0,e⟩:=r3.has ((n+q * m+i:Nat):Int) (by unfold rowQ;exact List.mem_map.2 ⟨i,List.mem_range.2 hi,rfl⟩)
   refine⟨y,hy,?_⟩
   rw[fW (by rw[cE y0];exact e),Nat.add_assoc]
theorem Cx.mid {y:Int}(hy:Xn P.length y){q i:Nat}(hq:q<n) (hi:i<m) (ha:atP P y=((n+(q * m+i):Nat):Int)):(gI g).own y=false/\∃r,idx g.Arena.Next y=some r/\(∀z∈r,Xn P.length z/\∃o:Nat,o<k/\atP P z=tab d.Next q ((o * m+i:Nat):Int))/\∀o:Nat,o<k->∃z∈r,atP P z=tab d.Next q ((o * m+i:Nat):Int):=by
 obtain⟨v,hv,_,_⟩:=h.place hy
 rw[fW hv]at ha
 obtain⟨r,ar,rc,r1,r2,r3,r4,_⟩:=h.row hv
 have hlt:=qU (n:=n) hq hi
 obtain⟨ar',s1,s2,s3⟩:=h.con.r0 q i hq hi
 have hAr:ar=ar':=by
  rw[ha,bH,s1]at r2
  exact(Option.some.inj r2).symm
 subst hAr
 have how:idx g.Arena.Owner y=some 0:=by
  rw[r4,ha,bH,h.con.ol,List.getElem?_append_right (by simp),List.length_replicate,Nat.add_sub_cancel_left,yF,if_pos hlt]
 refine⟨?_,r,r1,λz hz=>?_,λo ho=>?_⟩
 · show ownL _ y=false
   unfold ownL
   rw[how];rfl
 · obtain⟨z0,u,hu,e⟩:=r3.to z hz
   have hl:=(hV.1 e).1
   obtain⟨o,ho,hu⟩:=(s3 u).1 hu
   exact⟨⟨z0,by omega⟩,o,ho,by rw[fW (by rw[cE z0];exact e),hu]⟩
 · obtain⟨z,hz,z0,e⟩:=r3.has _ ((s3 _).2 ⟨o,ho,rfl⟩)
   exact⟨z,hz,by rw[fW (by rw[cE z0];exact e)]⟩
theorem Cx.cellAt {q i o:Nat}(hq:q<n) (hi:i<m) (ho:o<k):∃row,idx d.Next (q:Int)=some row/\idx row ((o * m+i:Nat):Int)=some (tab d.Next q ((o * m+i:Nat):Int))/\0<=tab d.Next q ((o * m+i:Nat):Int)/\tab d.Next q ((o * m+i:Nat):Int)<(n:Int):=
 nI h.m1 h.m4 h.dl h.cell hq hi ho
theorem Cx.mine {x:Int}(hx:Xn P.length x) (ho:(gI g).own x=wB W x):∃y,idx pk x=some y/\Xn P.length y/\(gI g).E x y/\wB W y=wB W x:=by
 obtain⟨l1,_,_,_,_,l6⟩:=h.len
 have ha:=h.sol.ans
 rw[l1]at ha
 obtain⟨a1,a2,a3,a4⟩:=ha.mine x hx ho
 obtain⟨y,hy,_⟩:=iI (xs:=pk) hx.1 (by have:=hx.2;omega)
 rw[oD hy]at a1 a2 a3 a4
 exact⟨y,hy,a3,a2,a4⟩
theorem Cx.yours {x y:Int}(hx:Xn P.length x) (ho:¬(gI g).own x=wB W x) (he:(gI g).E x y) (hy:Xn P.length y):wB W y=wB W x:=by
 obtain⟨l1,_⟩:=h.len
 have ha:=h.sol.ans
 rw[l1]at ha
 exact ha.yours x y hx ho he hy
end
def toP (P:List Place) (r:List Int) (z:Int):Option Nat:=r.findIdx? λy=>atP P y==z
theorem vn {P:List Place}{r:List Int}{z:Int}(h:∃y∈r,atP P y=z):∃j y,toP P r z=some j/\r[j]? =some y/\atP P y=z:=by
 obtain⟨y,hy,e⟩:=h
 cases hf:toP P r z with
 | none=>
  unfold toP at hf
  rw[List.findIdx?_eq_none_iff]at hf
  have:=hf y hy
  simp[e]at this
 | some j=>
  unfold toP at hf
  obtain⟨h1,h2,_⟩:=List.findIdx?_eq_some_iff_getElem.1 hf
  exact⟨j,r[j],rfl,gs h1,by simpa using h2⟩
def tgt (P:List Place) (r:List Int) (z:Int):Int:=match toP P r z with | some j=>r.getD j 0 | none=> -1
theorem vH {P:List Place}{r:List Int}{z:Int}(h:∃y∈r,atP P y=z):tgt P r z∈r/\atP P (tgt P r z)=z/\∃j:Nat,toP P r z=some j/\r[j]? =some (tgt P r z):=by
 obtain⟨j,y,h1,h2,h3⟩:=vn h
 have e:tgt P r z=y:=by
  unfold tgt
  rw[h1]
  show r.getD j 0=y
  rw[List.getD_eq_getElem?_getD,h2];rfl
 rw[e]
 exact⟨yB h2,h3,j,h1,h2⟩
def dr (f:Nat->Int) (F:List Int):Nat->List Int×List Int
 | 0=>(F,[])
 | j+1=>(addN (dr f F j).1 (f j),(dr f F j).2++[dB (addN (dr f F j).1 (f j)) (f j)])
theorem qR {F:List Int}{t:Int}(h:t∈F):0<=dB F t/\dB F t<(F.length:Int):=by
 unfold dB
 cases hf:F.findIdx? (λx=>t==x) with
 | none=>
  rw[List.findIdx?_eq_none_iff]at hf
  have:=hf t h
  simp at this
 | some i=>
  obtain⟨h1,_⟩:=List.findIdx?_eq_some_iff_getElem.1 hf
  dsimp only
  omega
theorem sy {F:List Int}{t:Int}:t∈addN F t:=by
 unfold addN
 by_cases h:t∈F
 · rw[if_pos h];exact h
 · rw[if_neg h];simp
theorem ws {F:List Int}{t x:Int}(h:x∈addN F t):x∈F\/x=t:=by
 unfold addN at h
 by_cases ht:t∈F
 · rw[if_pos ht]at h;exact .inl h
 · rw[if_neg ht]at h;simpa using h
theorem uO {F:List Int}(t:Int) (hl:F.length<=1000):(bif decide (dB F t<0) then bC (appS 8 F [t]) λx=>some (x,(F.length:Int)) else some (F,dB F t))=some (addN F t,dB (addN F t) t):=by
 by_cases h:t∈F
 · rw[decide_eq_false (by have:=(qR h).1;omega),cond_false]
   unfold addN
   rw[if_pos h]
 · rw[qV h,decide_eq_true (by omega),cond_true,app1 (by omega) rfl]
   unfold addN
   rw[if_neg h,uU h];rfl
structure NmRow (N:Nat) (F:List Int) (j:Nat) (Q:Int->Prop) (F' row:List Int):Prop where
 nm:Names N F'
 pre:∀(i:Nat) v,F[i]? =some v->F'[i]? =some v
 len:F.length<=F'.length
 le:F'.length<=F.length+j
 rl:row.length=j
 rin:∀x∈row,0<=x/\x<(F'.length:Int)
 all:∀x∈F',Q x
theorem sb {N:Nat}{F:List Int}{Q:Int->Prop}(hF:Names N F) (hQ:∀x∈F,Q x){f:Nat->Int}{c:Nat}(hf:∀j,j<c->0<=f j/\f j<(N:Int)/\Q (f j)):∀j,j<=c->NmRow N F j Q (dr f F j).1 (dr f F j).2
 | 0,_=>⟨hF,λ_ _ h=>h,Nat.le_refl _,Nat.le_refl _,rfl,λx hx=>(by cases hx),hQ⟩
 | j+1,hj=>by
  have r:=sb hF hQ hf j (by omega)
  obtain⟨f0,f1,f2⟩:=hf j (by omega)
  unfold dr
  generalize dr f F j=G at *
  obtain⟨a1,a2⟩:=r.nm.add f0 f1
  have hlen:G.1.length<=(addN G.1 (f j)).length/\(addN G.1 (f j)).length<=G.1.length+1:=by
   unfold addN
   by_cases h:f j∈G.1
   · rw[if_pos h];omega
   · rw[if_neg h,yK];simp
  have h1:=r.len
  have h2:=r.le
  have hm:=qR (sy (F:=G.1) (t:=f j))
  refine⟨a1,λi v hv=>a2 i v (r.pre i v hv),by dsimp only;omega,by dsimp only;omega,by simp[r.rl],λx hx=>?_,λx hx=>?_⟩
  · rcases yT.1 hx with hx | hx
    · have:=r.rin x hx
      dsimp only;omega
    · rw[yM.1 hx];exact hm
  · rcases ws hx with hx | hx
    · exact r.all x hx
    · rw[hx];exact f2
end Go.Proofs.YtleekpaohfpooaaGreat
set_option linter.unusedVariables false
set_option linter.unusedSimpArgs false
namespace Go.Proofs.YtleekpaohfpooaaGreat
open Go Go.Wk Go.Proofs
structure Stp3 (p:Sig) (cs:List Clause) (d:Det) (n m k:Nat) (A:Arena) (P:List Place) (g:Parity) (W:Int->Prop) (pk:List Int):Prop where
 sig:sigOk p=true
 det:detOk p d=true
 im:pw p.In=(m:Int)
 ok:pw p.Out=(k:Int)
 cx:Cx d n m k A P g W pk
 sC:fi p d=some (A,d.Pairs,true)
 iC:eF p d=some (A,d.Pairs)
 sR:fl A d.Pairs 0=some (g,P,true)
 iR:dy A d.Pairs 0=some (g,P,true)
 sS:pP g=some ⟨wonL g.Prio.length W,pk⟩
 iS:kE g=some ⟨wonL g.Prio.length W,pk⟩
 sW:ir g=some (wonL g.Prio.length W)
 iW:er g=some (wonL g.Prio.length W)
 won:idx (wonL g.Prio.length W) 0=some (b2i (wB W 0))
structure Stp2 (p:Sig) (cs:List Clause) (d:Det) (A:Arena):Prop where
 cl:eY p cs=true
 prd:∃N:Nat,ltd p=N/\PR N cs d
 sig:sigOk p=true
 det:detOk p d=true
 pb:∀x∈d.Pairs,x.Ask.length<=1000000000/\x.Give.length<=1000000000
 aok:dz A=true
 pok:pairsOk d.Pairs (A.Owner.length:Int)=true
 a1:1<=A.Owner.length/\A.Owner.length<=256
 al:∃m:Nat,pw p.In=m/\A.Owner.length=d.Next.length+d.Next.length * m
 sC:fi p d=some (A,d.Pairs,true)
 iC:eF p d=some (A,d.Pairs)
theorem setup (p:Sig){cs:List Clause}(hb:∀c∈cs,Clause.bd c):(cZ p cs=some (zeroD,false)/\cV p cs=some (zeroD,false)/\(sigOk p=true->eY p cs=true->2<cs.length))\/∃d A,cZ p cs=some (d,true)/\cV p cs=some (d,true)/\Stp2 p cs d A /\
 ((fl A d.Pairs 0=some noRec/\dy A d.Pairs 0=some noRec/\ManyP A.Owner.length d.Pairs.length)\/∃n m k P g W pk,Stp3 p cs d n m k A P g W pk):=by
 rcases rZ p hb with ⟨h1,h2,h3⟩ | ⟨hs,hc,N,d,hN,_,hPR,hd,_,h1,h2⟩
 · exact .inl ⟨h1,h2,h3⟩
 · right
   obtain⟨n,m,k,A,q1,q2,q3,n1,n48,m1,m4,k1,k4,hD,hpb,hA,hsC,hiC⟩:=rT hs hd
   have hAok:=ye n48 n1 m1 m4 k1 k4 q1 hD hA
   have hol:A.Owner.length=n+n * m:=by rw[hA.ol];simp
   have hnm:n * m<=48 * 4:=Nat.mul_le_mul n48 m4
   have hps:pairsOk d.Pairs (A.Owner.length:Int)=true:=by
    have hd':=hd
    unfold detOk at hd'
    simp only[yH]at hd'
    have hp:=hd'.1.2
    unfold pairsOk at hp ⊢
    rw[yH,List.all_eq_true]at hp ⊢
    refine⟨hp.1,λx hx=>?_⟩
    have:=hp.2 x hx
    unfold pairOk at this ⊢
    rw[yH]at this ⊢
    exact⟨(St.of this.1).ok (by omega),(St.of this.2).ok (by omega)⟩
   refine⟨d,A,h1,h2,⟨hc,⟨N,hN,hPR⟩,hs,hd,hpb,hAok,hps,⟨by omega,by omega⟩,⟨m,q2,by rw[hol,q1]⟩,hsC,hiC⟩,?_⟩
   rcases qq hAok hps hpb (Int.le_refl 0) (by omega) with hr | ⟨P,g,hG,hok,r1,r2⟩
   · exact .inl hr
   · right
     obtain⟨W,pk,s1,s2,s3,s4,s5⟩:=si hok
     have hcx:Cx d n m k A P g W pk:=⟨n1,n48,m1,m4,k1,k4,q1,hD,hA,hG,hok,s5⟩
     obtain⟨l1,_,_,_,l5,_⟩:=hcx.len
     exact⟨n,m,k,P,g,W,pk,hs,hd,q2,q3,hcx,hsC,hiC,r1,r2,s1,s2,s3,s4,jP ⟨Int.le_refl _,by omega⟩⟩
end Go.Proofs.YtleekpaohfpooaaGreat
set_option linter.unusedVariables false
set_option linter.unusedSimpArgs false
namespace Go.Proofs.YtleekpaohfpooaaGreat
open Go Go.Wk Go.Proofs
section
variable {xs:List Pair}{n:Int}(h0:0<=n) (h1:n<=256) (hb:∀x∈xs,x.Ask.length<=1000000000/\x.Give.length<=1000000000)
include h0 h1 hb
omit h0 h1 in
theorem mo:iD xs n=some (pairsOk xs n):=by
 unfold iD pairsOk
 rw[cP (f:=ga xs n) (r:=false) (pairOk n) (xs:=xs) rfl (λi x hx=>by
  obtain⟨b1,b2⟩:=hb x (yB hx)
  unfold ga pairOk
  rw[bH,hx]
  simp only[bE,j5 b1,j5 b2]
  cases cK n x.Ask <;> cases cK n x.Give <;> rfl)]
 cases xs.all (pairOk n) <;> simp[aft]
end
end Go.Proofs.YtleekpaohfpooaaGreat
set_option linter.unusedVariables false
set_option linter.unusedSimpArgs false
namespace Go.Proofs.YtleekpaohfpooaaGreat
open Go Go.Wk Go.Proofs
section
variable {p:Sig}{d:Det}(hs:sigOk p=true) (hb:∀x∈d.Pairs,x.Ask.length<=1000000000/\x.Give.length<=1000000000)
include hs hb
theorem oN:mV p d=some (detOk p d):=by
 unfold mV detOk
 simp only[ov,orE,bE]
 rw[← Bool.not_and]
 cases h1:(decide (1<=(d.Next.length:Int))&&decide ((d.Next.length:Int)<=48)) with
 | false=>rfl
 | true=>
  simp only[yH,decide_eq_true_eq]at h1
  rw[cP (f:=kc p d) (r:=false) (detRow p d.Next.length) (xs:=d.Next) rfl (λi row hx=>by
   unfold kc detRow
   rw[bH,hx]
   simp only[bE,oS hs,oX,bne]
   cases((row.length:Int)==ltd p) <;> cases row.all (inR d.Next.length) <;> rfl),mo hb]
  simp only[yJ,cond_false,bE,Bool.true_and]
  cases d.Next.all (detRow p d.Next.length) <;> cases pairsOk d.Pairs d.Next.length <;> rfl
end
end Go.Proofs.YtleekpaohfpooaaGreat
set_option linter.unusedVariables false
set_option linter.unusedSimpArgs false
namespace Go.Proofs.YtleekpaohfpooaaGreat
open Go Go.Wk Go.Proofs
def outsL (d:Det) (m k q i:Nat) (z:Int):List Int:=((List.range k).filter λo=>tab d.Next q ((o * m+i:Nat):Int)==z).map Int.ofNat
def outF (d:Det) (m k q i:Nat) (z:Int):Int:=(outsL d m k q i z).getD 0 0
theorem uW (d:Det) (m k q i:Nat) (z:Int):(outsL d m k q i z).length<=k:=by
 unfold outsL
 rw[yW]
 exact Nat.le_trans (List.length_filter_le ..) (by rw[List.length_range];exact Nat.le_refl _)
theorem tA (d:Det) (m j q i:Nat) (z:Int):outsL d m (j+1) q i z=outsL d m j q i z++(if(tab d.Next q ((j * m+i:Nat):Int)==z)=true then[(j:Int)] else[]):=by
 unfold outsL
 rw[List.range_succ,List.filter_append,List.map_append]
 congr 1
 rw[List.filter_cons,List.filter_nil]
 cases tab d.Next q ((j * m+i:Nat):Int)==z <;> rfl
theorem xc {d:Det}{m k q i o:Nat}{z:Int}(ho:o<k) (h:z=tab d.Next q ((o * m+i:Nat):Int)):idx (outsL d m k q i z) 0=some (outF d m k q i z)/\0<=outF d m k q i z/\outF d m k q i z<(k:Int):=by
 have hm:(o:Int)∈outsL d m k q i z:=List.mem_map.2 ⟨o,List.mem_filter.2 ⟨List.mem_range.2 ho,by simp[h]⟩,rfl⟩
 have hl:=List.length_pos_of_mem hm
 have hx:(outsL d m k q i z)[0]? =some ((outsL d m k q i z)[0]'hl):=gs hl
 have e:outF d m k q i z=(outsL d m k q i z)[0]'hl:=by
  unfold outF
  rw[List.getD_eq_getElem?_getD,hx];rfl
 rw[e]
 refine⟨by rw[show(0:Int)=((0:Nat):Int) from rfl,bH];exact hx,?_⟩
 have:=List.getElem_mem hl
 generalize(outsL d m k q i z)[0]'hl=y at this
 unfold outsL at this
 obtain⟨o',h1,h2⟩:=List.mem_map.1 this
 have:=List.mem_range.1 (List.mem_filter.1 h1).1
 have h2:(o':Int)=y:=h2
 omega
theorem mQ (f:Nat->Int) (F:List Int):∀j,F.length<=(dr f F j).1.length/\(dr f F j).1.length<=F.length+j/\(dr f F j).2.length=j
 | 0=>⟨Nat.le_refl _,Nat.le_refl _,rfl⟩
 | j+1=>by
  obtain⟨a,b,c⟩:=mQ f F j
  have h:(dr f F j).1.length<=(addN (dr f F j).1 (f j)).length/\(addN (dr f F j).1 (f j)).length<=(dr f F j).1.length+1:=by
   unfold addN
   split
   · omega
   · rw[yK];simp
  refine⟨?_,?_,?_⟩
  · show _<=(addN _ _).length;omega
  · show(addN _ _).length<=_;omega
  · show((dr f F j).2++[_]).length=_;rw[yK,c];rfl
def fM (pk:List Int) (P:List Place) (r:List Int) (n m q:Nat) (i:Nat):Int:=pkL pk (tgt P r ((n+(q * m+i):Nat):Int))
def oM (d:Det) (pk:List Int) (P:List Place) (r:List Int) (n m k q:Nat) (i:Nat):Int:=outF d m k q i (atP P (fM pk P r n m q i))
theorem kL (f:Nat->Int) (F:List Int){i:Nat}{v:Int}(hv:F[i]? =some v):∀j,(dr f F j).1[i]? =some v
 | 0=>hv
 | j+1=>by
  have h:=kL f F hv j
  show(addN _ _)[i]? =_
  unfold addN
  split
  · exact h
  · rw[List.getElem?_append_left (hV.1 h).1];exact h
structure Mkr (N m k:Nat) (Q:Int->Prop) (F:List Int) (i:Nat) (Nx Ou:List (List Int)):Prop where
 nm:Names N F
 all:∀x∈F,Q x
 zero:F[0]? =some 0
 nxl:Nx.length=i
 oul:Ou.length=i
 nxr:∀row∈Nx,row.length=m/\∀x∈row,0<=x/\x<(F.length:Int)
 our:∀row∈Ou,row.length=m/\∀x∈row,0<=x/\x<(k:Int)
def itM (d:Det) (n m k:Nat) (P:List Place) (g:Parity) (pk:List Int):Nat->List Int×List (List Int)×List (List Int)
 | 0=>([0],[],[])
 | j+1=>
  ((dr (fM pk P (cv g.Arena ((itM d n m k P g pk j).1.getD j 0)) n m (atP P ((itM d n m k P g pk j).1.getD j 0)).toNat) (itM d n m k P g pk j).1 m).1,
   (itM d n m k P g pk j).2.1++[(dr (fM pk P (cv g.Arena ((itM d n m k P g pk j).1.getD j 0)) n m (atP P ((itM d n m k P g pk j).1.getD j 0)).toNat) (itM d n m k P g pk j).1 m).2],
   (itM d n m k P g pk j).2.2++[(List.range m).map (oM d pk P (cv g.Arena ((itM d n m k P g pk j).1.getD j 0)) n m k (atP P ((itM d n m k P g pk j).1.getD j 0)).toNat)])
section
variable {d:Det}{n m k:Nat}{A:Arena}{P:List Place}{g:Parity}{W:Int->Prop}{pk:List Int}(h:Cx d n m k A P g W pk)
include h
theorem sF {x:Int}{v:Place}(hv:idx P x=some v) (ha:v.At<(n:Int)) (hw:wB W x=false):∃(q:Nat) (r:List Int),v.At=(q:Int)/\q<n/\idx g.Arena.Next x=some r/\r.length<=16/\(∀y∈r,Xn P.length y)/\∀i:Nat,i<m ->
 ∃j y u,toP P r ((n+(q * m+i):Nat):Int)=some j/\r[j]? =some y/\tgt P r ((n+(q * m+i):Nat):Int)=y/\(∃z∈r,atP P z=((n+(q * m+i):Nat):Int))/\idx pk y=some (fM pk P r n m q i)/\idx P (fM pk P r n m q i)=some u/\u.At=atP P (fM pk P r n m q i) /\
  (0<=fM pk P r n m q i/\fM pk P r n m q i<(P.length:Int)/\(wB W (fM pk P r n m q i)=false/\atP P (fM pk P r n m q i)<(n:Int)))/\idx (outsL d m k q i u.At) 0=some (oM d pk P r n m k q i)/\0<=oM d pk P r n m k q i/\oM d pk P r n m k q i<(k:Int):=by
 have hxX:Xn P.length x:=⟨(ff hv).1,(ff hv).2.1⟩
 obtain⟨hown,q,r,hvq,hq,hrx,hrow,hhas⟩:=h.state hv ha
 obtain⟨r',_,_,hr',_,_,_,hl⟩:=h.row hv
 rw[hrx]at hr'
 cases hr'
 refine⟨q,r,hvq,hq,hrx,hl,λy hy=>(hrow y hy).1,λi hi=>?_⟩
 obtain⟨t1,t2,j,t3,t4⟩:=vH (hhas i hi)
 generalize hy:tgt P r ((n+(q * m+i):Nat):Int)=y at *
 have hyX:=(hrow y t1).1
 have hyw:wB W y=wB W x:=h.yours hxX (by rw[hown,hw];simp) ((nR hrx).2 t1) hyX
 obtain⟨hyo,ry,hry,hR1,_⟩:=h.mid hyX hq hi t2
 obtain⟨to,hto,htX,hte,htw⟩:=h.mine hyX (by rw[hyo,hyw,hw])
 have hf:fM pk P r n m q i=to:=by
  unfold fM
  rw[hy,oD hto]
 obtain⟨_,o,ho,hta⟩:=hR1 to ((nR hry).1 hte)
 obtain⟨u,hu,_,_⟩:=h.place htX
 have hua:u.At=atP P to:=(fW hu).symm
 obtain⟨_,_,_,_,b2⟩:=h.cellAt hq hi ho
 have hO:=xc (d:=d) (m:=m) (k:=k) (q:=q) (i:=i) (z:=atP P to) ho hta
 refine⟨j,y,u,t3,t4,rfl,hhas i hi,by rw[hf];exact hto,by rw[hf];exact hu,by rw[hf];exact hua,by rw[hf];exact⟨htX.1,htX.2,by rw[htw,hyw,hw],by rw[hta];exact b2⟩,?_⟩
 unfold oM
 rw[hf,hua]
 exact hO
end
theorem vB (d:Det) (n m k:Nat) (P:List Place) (g:Parity) (pk:List Int):∀{i j:Nat},i<=j->(itM d n m k P g pk i).1.length<=(itM d n m k P g pk j).1.length:=by
 intro i j hij
 induction hij with
 | refl=>exact Nat.le_refl _
 | step _ ih=>exact Nat.le_trans ih (mQ _ _ _).1
section
variable {d:Det}{n m k:Nat}{A:Arena}{P:List Place}{g:Parity}{W:Int->Prop}{pk:List Int}(h:Cx d n m k A P g W pk)
include h
variable (h0:wB W 0=false)
include h0
theorem iL:∀j:Nat,(∀i,i<j->i<(itM d n m k P g pk i).1.length)->Mkr P.length m k (λx=>wB W x=false/\atP P x<(n:Int)) (itM d n m k P g pk j).1 j (itM d n m k P g pk j).2.1 (itM d n m k P g pk j).2.2
 | 0,_=>by
  obtain⟨_,_,_,_,hP1,_⟩:=h.len
  have hz:=h.rg.game.zero
  have hz0:atP P 0<(n:Int):=by
   rw[fW (v:=⟨0,firstR d.Pairs.length⟩) (by rw[show(0:Int)=((0:Nat):Int) from rfl,bH];exact hz)]
   have:=h.n1
   show(0:Int)<_
   omega
  refine⟨⟨by show[(0:Int)].Nodup;simp,λx hx=>?_⟩,λx hx=>?_,rfl,rfl,rfl,λx hx=>(by cases hx),λx hx=>(by cases hx)⟩
  · rw[yM.1 hx];omega
  · rw[yM.1 hx];exact⟨h0,hz0⟩
 | j+1,hj=>by
  have hM:=iL j λi hi=>hj i (by omega)
  have hlt:=hj j (by omega)
  unfold itM
  generalize itM d n m k P g pk j=s at *
  obtain⟨F,Nx,Ou⟩:=s
  dsimp only at hM hlt ⊢
  have hx:F[j]? =some F[j]:=gs hlt
  have hgd:F.getD j 0=F[j]:=by rw[List.getD_eq_getElem?_getD,hx];rfl
  rw[hgd]
  generalize F[j]=x at hx
  have hxm:=yB hx
  obtain⟨hxw,hxa⟩:=hM.all x hxm
  obtain⟨v,hv,_,_⟩:=h.place (x:=x) (hM.nm.2 x hxm)
  rw[fW hv]at hxa ⊢
  obtain⟨q,r,e1,hq,hr,hrl,hR,hf⟩:=sF h hv hxa hxw
  rw[dA hr,show v.At.toNat=q by omega]
  have hN:=sb (N:=P.length) (F:=F) (Q:=λx=>wB W x=false/\atP P x<(n:Int)) hM.nm hM.all (f:=fM pk P r n m q) (c:=m) (λi hi=>by
   obtain⟨_,_,_,_,_,_,_,_,_,_,t8,_⟩:=hf i hi
   exact t8) m (Nat.le_refl _)
  have hl:=hN.len
  refine⟨hN.nm,hN.all,hN.pre 0 _ hM.zero,by rw[yK,hM.nxl];rfl,by rw[yK,hM.oul];rfl,λrow hrow=>?_,λrow hrow=>?_⟩
  · rcases yT.1 hrow with hr' | hr'
    · obtain⟨b1,b2⟩:=hM.nxr row hr'
      exact⟨b1,λx hx=>by have:=b2 x hx;omega⟩
    · rw[yM.1 hr']
      exact⟨hN.rl,hN.rin⟩
  · rcases yT.1 hrow with hr' | hr'
    · exact hM.our row hr'
    · rw[yM.1 hr']
      refine⟨by rw[yW,List.length_range],λy hy=>?_⟩
      obtain⟨i,hi,e⟩:=List.mem_map.1 hy
      obtain⟨_,_,_,_,_,_,_,_,_,_,_,_,t10⟩:=hf i (List.mem_range.1 hi)
      rw[← e];exact t10
end
end Go.Proofs.YtleekpaohfpooaaGreat
set_option linter.unusedVariables false
set_option linter.unusedSimpArgs false
namespace Go.Proofs.YtleekpaohfpooaaGreat
open Go Go.Wk Go.Proofs
section
variable {p:Sig}(hs:sigOk p=true){d:Det}(hd:detOk p d=true) (hpb:∀x∈d.Pairs,x.Ask.length<=1000000000/\x.Give.length<=1000000000){n m k:Nat}{A:Arena}{P:List Place}{g:Parity}{W:Int->Prop}{pk wn:List Int}(h:Cx d n m k A P g W pk) (hm:pw p.In=(m:Int)) (hk:pw p.Out=(k:Int))
include hs hd hpb h hm hk
theorem yl {q i:Nat}(hq:q<n) (hi:i<m) (z:Int):jb p d q i z=some (outsL d m k q i z):=by
 have hn48:=h.n48
 have hm4:=h.m4
 have hk4:=h.k4
 have hii:dL p=some (m:Int):=by rw[iO hs,hm]
 obtain⟨sh1,sh2⟩:=pd (dI hs).2
 rw[hk]at sh2
 have hrk:rng (k:Int)=some ():=by unfold rng;rw[if_pos (by omega)]
 have hk0:yG ((k:Int)-0)=k:=by omega
 unfold jb
 rw[ns,hs,bE,yJ,cond_false,oN hs hpb,hd,bE,bE,yJ,cond_false,decide_eq_false (show ¬(q:Int)<0 by omega),bE,cond_false,h.dl,decide_eq_false (show ¬(n:Int)<=(q:Int) by omega),bE,cond_false,decide_eq_false (show ¬(i:Int)<0 by omega),bE,cond_false,hii,bE,decide_eq_false (show ¬(m:Int)<=(i:Int) by omega),bE,cond_false,sh1,bE,sh2,hrk,bE,hk0]
 obtain⟨s,h1,h2⟩:=bX (f:=fh p d q i z) (λj s=>s=outsL d m j q i z) k (s:=[]) rfl (λj s hj e=>by
  subst e
  have hl:=uW d m j q i z
  obtain⟨row,r1,r2,_⟩:=h.cellAt hq hi hj
  have hb:j * m<=4 * 4:=Nat.mul_le_mul (by omega) (by omega)
  have e:(j:Int) * (m:Int)=((j * m:Nat):Int):=by simp
  have hS:=tA d m j q i z
  unfold fh
  rw[r1,bE,hii,bE,e,wr' (z:=((j * m:Nat):Int)) (by omega) (by omega),wr' (by omega) (by omega),show((j * m:Nat):Int)+(i:Int)=((j * m+i:Nat):Int) by omega,r2,bE]
  cases hc:tab d.Next q ((j * m+i:Nat):Int)==z with
  | true=>
   rw[hc,if_pos rfl]at hS
   rw[cond_true,app1 (by omega) rfl,bE,bE]
   exact⟨_,rfl,hS.symm⟩
  | false=>
   rw[hc,if_neg (by simp),List.append_nil]at hS
   rw[cond_false,bE]
   exact⟨_,rfl,hS.symm⟩)
 rw[h1,h2];rfl
omit hd hpb hk in
theorem yy {r:List Int}(hR:∀y∈r,Xn P.length y){q i:Nat}(hq:q<n) (hi:i<m){j:Nat}(hj:toP P r ((n+(q * m+i):Nat):Int)=some j):bY r P (n:Int) (q:Int) p (i:Int)=some (j:Int):=by
 have hn48:=h.n48
 have hm4:=h.m4
 have hlt:=qU (n:=n) hq hi
 have hnm:n * m<=48 * 4:=Nat.mul_le_mul hn48 hm4
 have e:(q:Int) * (m:Int)=((q * m:Nat):Int):=by simp
 rw[eK (λy=>atP P y==((n+(q * m+i):Nat):Int)) (λy hy=>by
  obtain⟨v,hv,_⟩:=iI (xs:=P) (hR y hy).1 (hR y hy).2
  unfold gn
  rw[hv,bE,iO hs,hm,bE,fW hv,e,wr' (z:=((q * m:Nat):Int)) (by omega) (by omega),wr' (z:=(n:Int)+((q * m:Nat):Int)) (by omega) (by omega),wr' (by omega) (by omega),show(n:Int)+((q * m:Nat):Int)+(i:Int)=((n+(q * m+i):Nat):Int) by omega])]
 unfold toP at hj
 rw[hj]
end
end Go.Proofs.YtleekpaohfpooaaGreat
set_option linter.unusedVariables false
set_option linter.unusedSimpArgs false
namespace Go.Proofs.YtleekpaohfpooaaGreat
open Go Go.Wk Go.Proofs
def stM (d:Det) (n m k:Nat) (P:List Place) (g:Parity) (pk:List Int) (j:Nat):List Int×Int×List (List Int)×List (List Int):=((itM d n m k P g pk j).1,(j:Int),(itM d n m k P g pk j).2.1,(itM d n m k P g pk j).2.2)
section
variable {d:Det}{n m k:Nat}{A:Arena}{P:List Place}{g:Parity}{W:Int->Prop}{pk:List Int}(h:Cx d n m k A P g W pk) (h0:wB W 0=false)
include h h0
theorem wT {j:Nat}(hj:∀i,i<j->i<(itM d n m k P g pk i).1.length) (hlt:j<(itM d n m k P g pk j).1.length):∃x v q r,(itM d n m k P g pk j).1[j]? =some x/\idx P x=some v/\v.At=((q:Nat):Int)/\q<n/\wB W x=false/\idx g.Arena.Next x=some r/\(itM d n m k P g pk j).1.length<=256 /\
 stM d n m k P g pk (j+1)=((dr (fM pk P r n m q) (itM d n m k P g pk j).1 m).1,((j+1:Nat):Int),(itM d n m k P g pk j).2.1++[(dr (fM pk P r n m q) (itM d n m k P g pk j).1 m).2],(itM d n m k P g pk j).2.2++[(List.range m).map (oM d pk P r n m k q)]):=by
 obtain⟨_,_,_,hP256,_,_⟩:=h.len
 have hM:=iL h h0 j hj
 have hFl:=hM.nm.len
 have hx:(itM d n m k P g pk j).1[j]? =some ((itM d n m k P g pk j).1[j]):=gs hlt
 have hgd:(itM d n m k P g pk j).1.getD j 0=(itM d n m k P g pk j).1[j]:=by rw[List.getD_eq_getElem?_getD,hx];rfl
 have hxm:=List.getElem_mem hlt
 obtain⟨hxw,hxa⟩:=hM.all _ hxm
 obtain⟨v,hv,_,_⟩:=h.place (hM.nm.2 _ hxm)
 have hat:=fW hv
 rw[hat]at hxa
 obtain⟨q,r,e1,hq,hr,_⟩:=sF h hv hxa hxw
 refine⟨_,v,q,r,hx,hv,e1,hq,hxw,hr,by omega,?_⟩
 unfold stM
 rw[show itM d n m k P g pk (j+1)=((dr (fM pk P (cv g.Arena ((itM d n m k P g pk j).1.getD j 0)) n m (atP P ((itM d n m k P g pk j).1.getD j 0)).toNat) (itM d n m k P g pk j).1 m).1,(itM d n m k P g pk j).2.1++[(dr (fM pk P (cv g.Arena ((itM d n m k P g pk j).1.getD j 0)) n m (atP P ((itM d n m k P g pk j).1.getD j 0)).toNat) (itM d n m k P g pk j).1 m).2],(itM d n m k P g pk j).2.2++[(List.range m).map (oM d pk P (cv g.Arena ((itM d n m k P g pk j).1.getD j 0)) n m k (atP P ((itM d n m k P g pk j).1.getD j 0)).toNat)]) from rfl]
 rw[hgd,dA hr,hat,show v.At.toNat=q by omega]
theorem xV {ρ:Type}{f:List Int×Int×List (List Int)×List (List Int)->Option (ρ⊕((List Int×Int×List (List Int)×List (List Int))⊕(List Int×Int×List (List Int)×List (List Int))))}(hf:∀j,(∀i,i<j->i<(itM d n m k P g pk i).1.length)->f (stM d n m k P g pk j)=some (if j<(itM d n m k P g pk j).1.length then .inr (.inr (stM d n m k P g pk (j+1))) else .inr (.inl (stM d n m k P g pk j)))):
 ∃j:Nat,(∀i,i<j->i<(itM d n m k P g pk i).1.length)/\j=(itM d n m k P g pk j).1.length/\ca f (2 ^ 64) ([0],0,[],[])=some (.inr (stM d n m k P g pk j)):=by
 obtain⟨_,_,_,hP256,_,_⟩:=h.len
 obtain⟨o,w1,w2⟩:=cB (f:=f) (λj s=>s=stM d n m k P g pk j/\∀i,i<j->i<(itM d n m k P g pk i).1.length) (λ_=>False)
  (λs=>∃j:Nat,s=stM d n m k P g pk j/\(∀i,i<j->i<(itM d n m k P g pk i).1.length)/\j=(itM d n m k P g pk j).1.length) 256 (λj s ⟨e,hj⟩=>by
  subst e
  have hFl:=(iL h h0 j hj).nm.len
  by_cases hlt:j<(itM d n m k P g pk j).1.length
  · rw[hf j hj,if_pos hlt]
    refine⟨_,rfl,by omega,rfl,λi hi=>?_⟩
    by_cases e:i=j
    · subst e;exact hlt
    · exact hj i (by omega)
  · rw[hf j hj,if_neg hlt]
    refine⟨_,rfl,j,rfl,hj,?_⟩
    cases j with
    | zero=>exact absurd (by show 0 < [(0:Int)].length;simp) hlt
    | succ j=>
     have a:=hj j (by omega)
     have b:=vB d n m k P g pk (show j<=j+1 by omega)
     omega) (2 ^ 64) 0 ([0],0,[],[]) (by omega) ⟨rfl,λi hi=>absurd hi (Nat.not_lt_zero i)⟩ (by omega)
 match o,w2 with
 | .inr s,⟨j,e,j1,j2⟩=>exact⟨j,j1,j2,by rw[w1,e]⟩
end
end Go.Proofs.YtleekpaohfpooaaGreat
set_option linter.unusedVariables false
set_option linter.unusedSimpArgs false
namespace Go.Proofs.YtleekpaohfpooaaGreat
open Go Go.Wk Go.Proofs
section
variable {p:Sig}(hs:sigOk p=true){d:Det}(hd:detOk p d=true) (hpb:∀x∈d.Pairs,x.Ask.length<=1000000000/\x.Give.length<=1000000000){n m k:Nat}{A:Arena}{P:List Place}{g:Parity}{W:Int->Prop}{pk wn:List Int}(h:Cx d n m k A P g W pk) (hm:pw p.In=(m:Int)) (hk:pw p.Out=(k:Int)) (h0:wB W 0=false)
include h hs hd hpb hm hk h0
theorem xT:∃j:Nat,(∀i,i<j->i<(itM d n m k P g pk i).1.length)/\j=(itM d n m k P g pk j).1.length/\ca (fN p (d,true) (g,P,true) ⟨wn,pk⟩) (2 ^ 64) ([0],0,[],[])=some (.inr (stM d n m k P g pk j)):=by
 have hm1:=h.m1
 have hm4:=h.m4
 have hrm:rng (m:Int)=some ():=by unfold rng;rw[if_pos (by omega)]
 have hm0:yG ((m:Int)-0)=m:=by omega
 refine xV h h0 λj hj=>?_
 have hM:=iL h h0 j hj
 have e1:=hM.nxl
 have e2:=hM.oul
 have hFl:=hM.nm.len
 have hP:=h.len.2.2.2.1
 unfold fN stM
 dsimp only
 by_cases hlt:j<(itM d n m k P g pk j).1.length
 · obtain⟨x,v,q,r,hx,hv,hq,hqn,hw,hr,hl,hE⟩:=wT h h0 hj hlt
   obtain⟨q',r',e1',_,e2',_,hR,hfacts⟩:=sF h hv (by omega) hw
   have:q=q':=by omega
   subst this
   rw[hr]at e2'
   cases e2'
   have hol:∀j:Nat,((List.range j).map (oM d pk P r n m k q)).length=j:=λj=>by rw[yW,List.length_range]
   rw[if_pos hlt]
   unfold stM at hE
   rw[hE]
   generalize itM d n m k P g pk j=S at *
   obtain⟨F,Nx,Ou⟩:=S
   dsimp only at *
   have hrow:cntM (en p (d,true) (g,P,true) ⟨wn,pk⟩ (F,(j:Int),Nx,Ou) v) m 0 (F,[],[])=some (.inr ((dr (fM pk P r n m q) F m).1,(dr (fM pk P r n m q) F m).2,(List.range m).map (oM d pk P r n m k q))):=by
    obtain⟨s,h1,h2⟩:=bX (f:=en p (d,true) (g,P,true) ⟨wn,pk⟩ (F,(j:Int),Nx,Ou) v) (λj s=>s=((dr (fM pk P r n m q) F j).1,(dr (fM pk P r n m q) F j).2,(List.range j).map (oM d pk P r n m k q))) m (s:=(F,[],[])) rfl (λi s hi e=>by
     subst e
     obtain⟨l1,l2,l3⟩:=mQ (fM pk P r n m q) F i
     obtain⟨jj,y,u,t1,t2,t3,t4,t5,t6,t7,t8,t9,_⟩:=hfacts i hi
     unfold en
     dsimp only
     rw[bH,kL _ _ hx,bE,hr,bE,h.dl,hq,yy hs h hm hR hqn hi t1,bE,bE,hr,bE,bH,t2,bE,t5,bE,sN,bE,uO _ (by omega),bE]
     dsimp only
     rw[app1 (by omega) rfl,bE,t6,bE,yl hs hd hpb h hm hk hqn hi,bE,t9,bE,app1 (by rw[hol];omega) rfl,bE]
     exact⟨_,rfl,by rw[List.range_succ,List.map_append];rfl⟩)
    rw[h1,h2]
   rw[decide_eq_true (show(j:Int)<(F.length:Int) by omega),cond_true,bH,hx,bE,hv,bE,iO hs,hm,bE,hrm,bE,hm0,hrow,bE,bJ]
   dsimp only
   rw[app1 (by omega) rfl,bE,app1 (by omega) rfl,bE,wr' (by omega) (by omega)]
   rfl
 · rw[decide_eq_false (by omega),cond_false,if_neg hlt]
end
end Go.Proofs.YtleekpaohfpooaaGreat
