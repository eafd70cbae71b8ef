/- Picks that win: both sides find the same. -/
import Derived.Test.YtleekpaohfpooaaGreatL1MD
import Derived.Test.YtleekpaohfpooaaGreatL0MD
set_option linter.unusedVariables false
set_option linter.unusedSimpArgs false
open Bool renaming and_eq_true → rx, eq_iff_iff → DC, not_false → D4, not_true → DD, true_and → DE
open Classical renaming byContradiction → DF
open Int renaming toNat → Dq
open Go.IntKind renaming wrap → Dr
open List renaming all_eq_true → DI, append_assoc → CS, findIdx?_eq_none_iff → El, findIdx?_eq_some_iff_getElem → Em, getD_eq_getElem?_getD → bR, getElem?_append_left → CZ, getElem?_append_right → C0, getElem?_eq_getElem → ct, getElem?_eq_some_iff → Cu, getElem?_of_mem → DK, getElem?_replicate → D9, getElem_mem → En, length_append → Cw, length_cons → Cy, length_filter_le → DL, length_map → DM, length_nil → DO, length_pos_of_mem → Eo, length_range → Eb, length_replicate → C6, length_take → C7, map_append → C8, mem_append → CA, mem_cons_self → DP, mem_filter → DQ, mem_map → Da, mem_of_getElem? → Db, mem_range → Ec, mem_singleton → CC, nil_append → Er, nodup_append → DT, pairwise_iff_getElem → DW, range → Ee, range_succ → Ef, replicate → De, replicate_succ' → Es, take_add_one → DX, take_length → DZ
open Nat renaming le_refl → CK, le_trans → D0, mul_le_mul → Et, not_lt_zero → D1
open Option renaming bind → Dl, bind_some → D3
open Option.some renaming inj → Ds
open Go.Proofs.YtleekpaohfpooaaGreat.Par renaming Dom → Eu, NoDead → Ej, Rg → Ev, pickG → Ew, updF → Ex
namespace Go.Proofs.YtleekpaohfpooaaGreat
open Go Go.Wk Go.Proofs
section
open Classical
theorem wE {n:Nat}{W:Int->Prop}(hn:n<=256) (q:Bool):∃B,j8 (wonL n W) (b2i q)=some B/\B.length=n/\In B=Ev (Xn n) (wB W) q:=by
 have hl:=qm n W
 unfold j8
 rw[hl,dg (by omega) rfl,D3]
 obtain⟨c,h1,d,e⟩:=fillB (f:=mI (wonL n W) (b2i q)) (Ev (Xn n) (wB W) q) n (s0:=De n false) (by simp) (λa c i hs=>by
  have b:Xn n (a:Int):=⟨by omega,by omega⟩
  unfold mI
  rw[mi b,D3,oB]
  have:(wB W (a:Int)==q)=decide (Ev (Xn n) (wB W) q (a:Int)):=by
   rw[DC,decide_eq_true_iff]
   unfold Ev
   simp[b]
  rw[this]) (λv g=>g.1)
 rw[h1,D3,bU]
 exact⟨c,rfl,d,funext λv=>propext (e v)⟩
theorem za {n:Nat}{W:Int->Prop}(hn:n<=256) (p:VI) (q:Bool):∃e,lz ⟨wonL n W,p⟩ (b2i q)=some e/\e.length<=n/\(∀v,v∈e↔Ev (Xn n) (wB W) q v):=by
 have hl:=qm n W
 unfold lz
 dsimp only
 rw[hl,decide_eq_false (by omega),cond_false]
 obtain⟨c,h1,d,k⟩:=ch (f:=iF ⟨wonL n W,p⟩ (b2i q)) (λa (c:VI)=>c.length<=a/\∀v,v∈c↔Ev (Xn n) (wB W) q v/\v<a) n (s:=[]) ⟨by simp,λv=>⟨λh=>absurd h (by simp),λh=>by have:=h.1.1.1;omega⟩⟩ (λa c l ⟨m,j⟩=>by
  have i:Xn n (a:Int):=⟨by omega,by omega⟩
  unfold iF
  dsimp only
  rw[mi i,D3,oB,app1 (by omega) rfl]
  cases b:(wB W (a:Int)==q) with
  |true=>
   have b:wB W (a:Int)=q:=by simpa using b
   refine⟨_,rfl,by simp;omega,λv=>?_⟩
   rw[CA,j,CC]
   constructor
   .rintro(⟨h1,d⟩|rfl)
    .exact⟨h1,by omega⟩
    .exact⟨⟨i,b⟩,by omega⟩
   .rintro⟨h1,d⟩
    by_cases g:v=a
    .exact .inr g
    .exact .inl ⟨h1,by omega⟩
  |false=>
   have b:¬wB W (a:Int)=q:=by simpa using b
   refine⟨_,rfl,by omega,λv=>?_⟩
   rw[j]
   constructor
   .rintro⟨h1,d⟩
    exact⟨h1,by omega⟩
   .rintro⟨h1,d⟩
    have:v≠a:=λg=>b (by rw[← g];exact h1.2)
    exact⟨h1,by omega⟩)
 rw[h1,D3,bU]
 exact⟨c,rfl,d,λv=>by rw[k];exact⟨λh=>h.1,λh=>⟨h,h.1.2⟩⟩⟩
section
variable {g:Parity}{n:Nat}(hp:c7 g=true) (hn:n=g.Prio.length){W:Int->Prop}(hW:Par.Sol (gI g) (Xn n) false W)
include hp hn hW
omit hW in
theorem B2 {P:VV}(S:PrevT g.Arena.Next n n P){k:VI}(hk:k.length=n) (Q:Par.PInv (gI g) (Xn n) (wB W) (pkL k)){v:Int}(c:Xn n v) (Y:(gI g).own v=wB W v){row:VI}(hr:idx g.Arena.Next v=some row){i:Nat}{u:Int}(h1:row[i]? =some u)
 (C:wB W u=wB W v/\Eu (Ew (gI g) (Ex (pkL k) v u)) (Ev (Xn n) (wB W) (wB W v)) (wB W v) (Ev (Xn n) (wB W) (wB W v)))
 (M:∀(j:Nat) y,j<i->row[j]? =some y->¬(wB W y=wB W v/\Eu (Ew (gI g) (Ex (pkL k) v y)) (Ev (Xn n) (wB W) (wB W v)) (wB W v) (Ev (Xn n) (wB W) (wB W v))))
 {B:VB} (N:B.length=n) (o:In B=Ev (Xn n) (wB W) (wB W v)):
 ∃q,sP ⟨g.Arena.Owner,g.Prio,g.Arena.Next,P,k⟩ B v=some (u,q)/\q.length=n/\pkL q=Ex (pkL k) v u:=by
 have h:=GOk.of hp
 rw[← hn]at h
 have V:Ej (gI g) (Xn n):=nr h (oS hp)
 obtain⟨am,an,ac⟩:=h.row v row hr
 have ah:=(Cu.1 h1).1
 have ai:=h.n256
 unfold sP
 obtain⟨ab,ae,r⟩:=cM (f:=oz ⟨g.Arena.Owner,g.Prio,g.Arena.Next,P,k⟩ B v) (λj (a:Int×VI)=>a.1=(j:Int)/\j<=i/\a.2.length=n/\∃s,pkL a.2=Ex (pkL k) v s) (λ(a:Int×VI)=>a.1=u/\a.2.length=n/\pkL a.2=Ex (pkL k) v u) (λ_=>False) i (λj a ⟨t,ag,w,s,l⟩=>by
  obtain⟨ak,a⟩:=a
  dsimp only at t w l
  subst t
  have T:j<row.length:=by omega
  have b:row[j]? =some row[j]:=ct T
  generalize row[j]=y at b
  obtain⟨L,af⟩:=ac y (Db b)
  have K:Xn n y:=⟨L,af⟩
  have aa:(gI g).E v y:=by show y∈cY g.Arena v;rw[dW hr];exact Db b
  unfold oz
  dsimp only
  rw[hr,D3,decide_eq_true (show(j:Int)<(row.length:Int) by omega),cond_true,D3,bT,b,D3,dv (B:=B) L (by omega),D3]
  have O:decide (In B y)=(wB W y==wB W v):=by
   rw[DC,decide_eq_true_iff,o]
   unfold Ev
   simp[K]
  have H:Dr .i64 ((j:Int)+1)=((j+1:Nat):Int):=by rw[wr' (by omega) (by omega)];omega
  rw[O]
  cases D:(wB W y==wB W v) with
  |false=>
   simp only[D4,cond_true,H]
   have X:¬wB W y=wB W v:=by simpa using D
   have:j≠i:=λm=>by subst m;rw[h1]at b;cases b;exact X C.1
   exact⟨_,rfl,by omega,rfl,by omega,w,s,l⟩
  |true=>
   have I:wB W y=wB W v:=by simpa using D
   obtain⟨al,Z⟩:=cF (xs:=a) (i:=v) c.1 (by have:=c.2;omega)
   obtain⟨e,G,aj⟩:=cS (xs:=a) (i:=v) y c.1 (by have:=c.2;omega)
   have p:pkL e=Ex (pkL k) v y:=by rw[rA G,l,qE]
   have d:e.length=n:=by omega
   have E:gS ⟨g.Arena.Owner,g.Prio,g.Arena.Next,P,e⟩=Ew (gI g) (Ex (pkL k) v y):=by rw[Ao h P d,p]
   have R:Ej (gS ⟨g.Arena.Owner,g.Prio,g.Arena.Next,P,e⟩) (In B):=by
    rw[E,o]
    exact Q.noDead V aa K I _
   have F:=A6 (h.wfS S d) h.pri N R (wB W v)
   rw[E,o]at F
   simp only[DD,cond_false]
   rw[Z,D3,G,D3,xT h c,Y,D3,F,D3]
   by_cases hd:Eu (Ew (gI g) (Ex (pkL k) v y)) (Ev (Xn n) (wB W) (wB W v)) (wB W v) (Ev (Xn n) (wB W) (wB W v))
   .rw[decide_eq_true hd,cond_true]
    have:¬j<i:=λU=>M j y U b ⟨I,hd⟩
    have:j=i:=by omega
    subst this
    rw[h1]at b;cases b
    exact⟨_,rfl,rfl,d,p⟩
   .rw[decide_eq_false hd,cond_false,H]
    have:j≠i:=λm=>by subst m;rw[h1]at b;cases b;exact hd C.2
    exact⟨_,rfl,by omega,rfl,by omega,d,y,p⟩) (2 ^ 64) 0 (0,k) (by omega) ⟨rfl,by omega,hk,pkL k v,(tV rfl).symm⟩ (by omega)
 match ab,r with
 |.inl a,r=>
  obtain⟨x,z,A⟩:=r
  obtain⟨ao,ad⟩:=a
  dsimp only at x z A
  subst x
  rw[ae,D3,rh]
  exact⟨ad,rfl,z,A⟩
omit hW in
theorem Bn {k:VI}(hk:k.length=n) (M:Par.PInv (gI g) (Xn n) (wB W) (pkL k)){v:Int}(l:Xn n v) (an:pkL k v= -1){row:VI}(hr:idx g.Arena.Next v=some row){i:Nat}{u:Int}(h1:row[i]? =some u)
 (K:wB W u=wB W v/\Eu (Ew (gI g) (Ex (pkL k) v u)) (Ev (Xn n) (wB W) (wB W v)) (wB W v) (Ev (Xn n) (wB W) (wB W v)))
 (ag:∀(j:Nat) y,j<i->row[j]? =some y->¬(wB W y=wB W v/\Eu (Ew (gI g) (Ex (pkL k) v y)) (Ev (Xn n) (wB W) (wB W v)) (wB W v) (Ev (Xn n) (wB W) (wB W v))))
 {L:VI} (w:∀e,e∈L↔Ev (Xn n) (wB W) (wB W v) e):
 ∃E,cntM (gj g (wonL n W) v L row) row.length 0 k=some (.inr E)/\E.length=n/\pkL E=Ex (pkL k) v u:=by
 have h:=GOk.of hp
 rw[← hn]at h
 have aq:Ej (gI g) (Xn n):=nr h (oS hp)
 obtain⟨aT,aU,aD⟩:=h.row v row hr
 have aM:=(Cu.1 h1).1
 have aO:=h.n256
 have N:(λe=>e∈L)=Ev (Xn n) (wB W) (wB W v):=funext λe=>propext (w e)
 obtain⟨aA,aF,p⟩:=vx (f:=gj g (wonL n W) v L row) (λj (d:VI)=>j<=i/\d.length=n/\pkL d=pkL k) (λ_=>False) (λ(d:VI)=>d.length=n/\pkL d=Ex (pkL k) v u) row.length (s:=k) ⟨by omega,hk,rfl⟩ (λj d am ⟨aJ,Y,G⟩=>by
  have c:row[j]? =some row[j]:=ct am
  generalize row[j]=y at c
  obtain⟨aH,aI⟩:=aD y (Db c)
  have V:Xn n y:=⟨aH,aI⟩
  have U:(gI g).E v y:=by show y∈cY g.Arena v;rw[dW hr];exact Db c
  unfold gj
  rw[bT,c,D3,mi V,D3,mi l,D3]
  have ak:(b2i (wB W y) !=b2i (wB W v))= !(wB W y==wB W v):=by unfold bne;rw[oB]
  rw[ak]
  cases P:(wB W y==wB W v) with
  |false=>
   simp only[D4,cond_true]
   have ar:¬wB W y=wB W v:=by simpa using P
   have:j≠i:=λb=>by subst b;rw[h1]at c;cases c;exact ar K.1
   exact⟨_,rfl,by omega,Y,G⟩
  |true=>
   have T:wB W y=wB W v:=by simpa using P
   obtain⟨aR,au⟩:=cF (xs:=d) (i:=v) l.1 (by have:=l.2;omega)
   obtain⟨A,Q,aP⟩:=cS (xs:=d) (i:=v) y l.1 (by have:=l.2;omega)
   obtain⟨aS,av⟩:=cF (xs:=A) (i:=v) l.1 (by have:=l.2;omega)
   obtain⟨aE,R,aQ⟩:=cS (xs:=A) (i:=v) (-1) l.1 (by have:=l.2;omega)
   have z:pkL A=Ex (pkL k) v y:=by rw[rA Q,G]
   have aw:pkL aE=pkL k:=by rw[rA R,z,qE,tV an]
   have S:A.length=n:=by omega
   obtain⟨ae,ab,ac,B⟩:=AM hp hn S (λx m=>by
    rw[z]at m ⊢
    unfold Ex at m ⊢
    by_cases b:x=v
    .rw[if_pos b];subst b;exact U
    .rw[if_neg b]at m ⊢
     exact(M.pick x m).2.2.1)
   rw[z]at B
   have ai:Ej (gI ae) (λe=>e∈L):=by
    rw[B,N]
    exact M.noDead aq U V T _
   obtain⟨q,O,W',ad,C,H,I,aK,aL⟩:=wJ ac (L:=L) (λe ax=>((w e).1 ax).1) ai
   rw[B,N]at C
   have al:=Par.hold_iff (q:=wB W v) C
   simp only[DD,cond_false]
   rw[au,D3,Q,D3,ab,D3,ad,D3,D3]
   dsimp only
   have az:(bif !wB W v then((O.length:Int)==0) else((q.length:Int)==0))=decide (Eu (Ew (gI g) (Ex (pkL k) v y)) (Ev (Xn n) (wB W) (wB W v)) (wB W v) (Ev (Xn n) (wB W) (wB W v))):=by
    rw[DC,decide_eq_true_iff,← al]
    cases D:wB W v with
    |false=>
     simp only[D4,cond_true]
     rw[show(((O.length:Int)==0)=true)↔O=[] from by simp]
     constructor
     .intro b x m
      refine⟨λ_=>trivial,λ_=>?_⟩
      apply DF
      intro ap
      have:=(I x).2 ⟨(w x).2 (by rw[D];exact m),ap⟩
      rw[b]at this;cases this
     .intro ha
      cases aj:O with
      |nil=>rfl
      |cons x xs=>
       obtain⟨t,Z⟩:=(I x).1 (by rw[aj];exact DP ..)
       exact absurd ((ha x (by have:=(w x).1 t;rwa [D]at this)).2 trivial) Z
    |true=>
     simp only[DD,cond_false]
     rw[show(((q.length:Int)==0)=true)↔q=[] from by simp]
     constructor
     .intro b x m
      refine⟨λay=>?_,λaf=>absurd af (by decide)⟩
      have:=(H x).2 ay
      rw[b]at this;cases this
     .intro ha
      cases ah:q with
      |nil=>rfl
      |cons x xs=>
       have t:=(H x).1 (by rw[ah];exact DP ..)
       have:=(ha x (by have:=C.sub x t;rwa [D]at this)).1 t
       cases this
   have aa:∀(a r o:Bool) {X:Type} (F:Bool->Option X),(Dl (bif (b2i o==0) then some a else some false) λaB=>Dl (bif aB then some true else Dl (some (b2i o)) λaG=>Dl (bif (aG==1) then some r else some false) λaC=>some aC) F)=F (bif !o then a else r):=by
    intro a r o X F
    cases o <;> cases a <;> cases r <;> rfl
   rw[aa,az]
   by_cases hd:Eu (Ew (gI g) (Ex (pkL k) v y)) (Ev (Xn n) (wB W) (wB W v)) (wB W v) (Ev (Xn n) (wB W) (wB W v))
   .rw[decide_eq_true hd,cond_true]
    have:¬j<i:=λao=>ag j y ao c ⟨T,hd⟩
    have:j=i:=by omega
    subst this
    rw[h1]at c;cases c
    exact⟨_,rfl,S,z⟩
   .rw[decide_eq_false hd,cond_false,av,D3,R,D3]
    have:j≠i:=λb=>by subst b;rw[h1]at c;cases c;exact hd K.2
    exact⟨_,rfl,by omega,by omega,aw⟩)
 match aA,p with
 |.inr d,p=>
  rcases p with ⟨aN,_⟩|p
  .omega
  .exact⟨d,aF,p.1,p.2⟩
omit hp hn hW in
theorem pt {n:Nat}(v:Int):pkL (De n (-1)) v= -1:=by
 unfold pkL
 cases h:idx (De n (-1:Int)) v with
 |none=>rfl
 |some x=>
  obtain⟨a,b⟩:=cL h
  rw[cH a,D9]at h
  split at h
  .cases h;rfl
  .cases h
omit hW in
theorem xe {A:VI}(i:jQ g=some A) (v:A.length<=256):pu g (De n (-1))=some true:=by
 have h:=GOk.of hp
 rw[← hn]at h
 obtain⟨h1,q,s,t,u⟩:=d7 hp
 have j:sG g (De n (-1))=some (g,true):=by
  unfold sG
  rw[mC,hp,D3]
  have k:qD g (De n (-1))=some true:=by
   unfold qD
   rw[C6,← hn]
   have:=dS (f:=nC g (De n (-1))) (r:=false) (λ_:Int=>true) (xs:=De n (-1)) (n:=n) (by simp) (λp x a=>by
    unfold nC
    have o:x= -1:=by
     rw[D9]at a
     split at a
     .cases a;rfl
     .cases a
    rw[bT,a,D3,o];rfl)
   rw[this]
   simp only[bne_self_eq_false,cond_false,DI,implies_true,if_true,D3,bU]
  rw[k]
  simp only[DD,cond_false,D3]
  rw[xv (by have:=h.lo;have:=h.n256;omega),D3,xv (by omega),D3,C6]
  obtain⟨c,d,e⟩:=ch (f:=oe g (De n (-1))) (λb (c:VV)=>c=g.Arena.Next.take b) n (s:=[]) rfl (λb c m hs=>by
   subst hs
   have a:g.Arena.Next[b]? =some (g.Arena.Next[b]'(by have:=h.ln;omega)):=ct (by have:=h.ln;omega)
   generalize g.Arena.Next[b]'(by have:=h.ln;omega)=row at a
   obtain⟨w,_,_⟩:=h.row (b:Int) row (by rw[bT];exact a)
   have hk:idx (De n (-1:Int)) (b:Int)=some (-1):=by rw[bT,D9,if_pos m]
   unfold oe
   rw[bT,a,D3,xv (by omega),D3,hk,D3]
   simp only[show decide ((0:Int)<= -1)=false from rfl,cond_false,D3]
   rw[app1 (by rw[C7];omega) rfl,D3]
   refine⟨_,rfl,?_⟩
   rw[DX,a];rfl)
  rw[d,e,D3,bU,List.take_of_length_le (by have:=h.ln;omega)]
 unfold pu
 rw[j,D3]
 dsimp only
 rw[cond_true,i,D3,D3]
 have l:ni A A=some true:=by
  unfold ni
  have:=dS (f:=kL A A) (r:=false) (λ_:Int=>true) (xs:=A) (n:=A.length) rfl (λp x a=>by
   unfold kL
   rw[bT,a,D3,D3]
   simp)
  rw[this]
  simp only[bne_self_eq_false,cond_false,DI,implies_true,if_true,D3,bU]
 rw[l];rfl
theorem xA (O:jQ g=some (wonL n W)):∃k,pv g (De n (-1))=some (⟨wonL n W,k⟩,true)/\lJ g (De n (-1)) (wonL n W)=some ⟨wonL n W,k⟩/\k.length=n/\(∀v x,idx k v=some x->x= -1\/0<=x)/\Par.Ans (gI g) (Xn n) (wB W) (pkL k):=by
 have h:=GOk.of hp
 rw[← hn]at h
 have F:=h.n256
 have am:=qm n W
 obtain⟨P,ax,ay⟩:=vb h
 obtain⟨B0,z,T,U⟩:=wE (W:=W) F false
 obtain⟨B1,A,V,X⟩:=wE (W:=W) F true
 have z:j8 (wonL n W) 0=some B0:=z
 have A:j8 (wonL n W) 1=some B1:=A
 unfold pv lJ
 rw[xe hp hn O (by omega),D3,O,ax,C6,appL (by simp;omega) rfl]
 simp only[DD,cond_false,D3,Er,C6,am]
 obtain⟨aK,Y,Z⟩:=ch (f:=mD g (De n (-1)) (wonL n W)) (λb (c:VI)=>c=De n (-1)) n (s:=De n (-1)) rfl (λb c u hs=>by
  subst hs
  have hk:idx (De n (-1:Int)) (b:Int)=some (-1):=by rw[bT,D9,if_pos u]
  unfold mD
  rw[hk]
  simp only[D3,show((-1:Int) != -1)=false from rfl,cond_false]
  rw[qj (by simp;omega),D3]
  refine⟨_,rfl,?_⟩
  apply List.ext_getElem?
  intro j
  rw[List.getElem?_set]
  simp only[D9,C6]
  split
  .rename_i e;subst e;rw[if_pos u]
  .rfl)
 subst Z
 rw[Y,D3,bU,z,D3,A,D3]
 obtain⟨c,y,aa,ab,rfl,ac,ad,aF,ae,af⟩:=ue (f:=mE g (wonL n W) ⟨g.Arena.Owner,g.Prio,g.Arena.Next,P,De n (-1)⟩ B0 B1) (g:=iK g (wonL n W)) (λb (c y:VI)=>c=y/\c.length=n/\Par.PInv (gI g) (Xn n) (wB W) (pkL c)/\(∀j:Nat,b<=j->pkL c j= -1)/\(∀v,Xn n v->v<b->(gI g).own v=wB W v->0<=pkL c v)/\(∀v x,idx c v=some x->x= -1\/0<=x)) n (s:=De n (-1)) (t:=De n (-1)) ⟨rfl,by simp,Par.PInv.start hW (λv _=>z8) (λv=>by rw[pt];decide),λj _=>pt _,λv d u=>by have:=d.1;omega,λv x o=> .inl (by rw[← qu o];exact pt v)⟩ (λb c y u ⟨e,q,r,s,L,M⟩=>by
  subst e
  have d:Xn n (b:Int):=⟨by omega,by omega⟩
  have Q:=oP q d.1 d.2
  rw[s b (CK b)]at Q
  unfold mE iK
  rw[Q,mi d,xT h d]
  simp only[D3,show decide ((0:Int)<= -1)=false from rfl,cond_false]
  by_cases l:(gI g).own (b:Int)=wB W (b:Int)
  · -- a pick
    obtain⟨row,hr⟩:=cF (xs:=g.Arena.Next) (i:=(b:Int)) (by omega) (by have:=h.ln;omega)
    obtain⟨i,az,aL,aA,aB⟩:=r.ex d l (by rw[s b (CK b)];decide)
    obtain⟨j,i,h1,t,N⟩:=vA (row:=row) (C:=λi=>wB W i=wB W (b:Int)/\Eu (Ew (gI g) (Ex (pkL c) b i)) (Ev (Xn n) (wB W) (wB W b)) (wB W b) (Ev (Xn n) (wB W) (wB W b))) ⟨i,by have:i∈cY g.Arena b:=az;rwa [dW hr]at this,aA,aB⟩
    have R:(gI g).E (b:Int) i:=by show i∈cY g.Arena b;rw[dW hr];exact Db h1
    have G:=(B9 h R).2
    obtain⟨aE,aq,aI,ar⟩:=za (W:=W) F [] (wB W (b:Int))
    obtain⟨B,ag,ah,ai⟩:∃B,(bif (b2i (wB W (b:Int))==1) then some B1 else some B0)=some B/\B.length=n/\In B=Ev (Xn n) (wB W) (wB W b):=by
     cases aG:wB W (b:Int) with
     |true=>exact⟨B1,rfl,V,X⟩
     |false=>exact⟨B0,rfl,T,U⟩
    obtain⟨ao,ap,K,p⟩:=B2 hp hn ay q r d l hr h1 t N ah ai
    obtain⟨w,au,av,aw⟩:=Bn hp hn q r d (s b (CK b)) hr h1 t N ar
    have:w=ao:=xV av K (by rw[aw,p])
    subst this
    obtain⟨aJ,ak⟩:=cF (xs:=w) (i:=(b:Int)) (by omega) (by omega)
    obtain⟨aD,S,aH⟩:=cS (xs:=w) (i:=(b:Int)) i (by omega) (by omega)
    have:aD=w:=xV (n:=n) (by omega) K (by rw[rA S,p,qE])
    subst this
    have D:(b2i (wB W (b:Int)) !=b2i ((gI g).own (b:Int)))=false:=by rw[l];simp
    have E:(b2i ((gI g).own (b:Int)) !=b2i (wB W (b:Int)))=false:=by rw[l];simp
    rw[D,E,cond_false,cond_false,D3,cond_false,ag,D3,ap,D3]
    dsimp only
    rw[ak,D3,S,D3,aq,D3,hr,D3,au,D3,bU]
    refine⟨_,_,rfl,rfl,rfl,K,?_,λI aj=>?_,λv H al m=>?_,λv x o=>?_⟩
    .rw[p];exact r.step d l R G t.1 t.2
    .rw[p]
     unfold Ex
     rw[if_neg (by omega)]
     exact s I (by omega)
    .rw[p]
     unfold Ex
     by_cases e:v=b
     .rw[if_pos e];exact G.1
     .rw[if_neg e];exact L v H (by omega) m
    .have:=qu o
     rw[p]at this
     unfold Ex at this
     by_cases e:v=b
     .rw[if_pos e]at this;rw[← this];exact .inr G.1
     .rw[if_neg e]at this
      obtain⟨aC,aM⟩:=cL o
      have hs:=oP q aC (by omega)
      rw[this]at hs
      exact M v x hs
  .have D:(b2i (wB W (b:Int)) !=b2i ((gI g).own (b:Int)))=true:=by
    unfold bne;rw[oB]
    cases o:wB W (b:Int) <;> cases an:(gI g).own (b:Int) <;> simp_all
   have E:(b2i ((gI g).own (b:Int)) !=b2i (wB W (b:Int)))=true:=by
    unfold bne;rw[oB]
    cases o:wB W (b:Int) <;> cases an:(gI g).own (b:Int) <;> simp_all
   rw[D,E,cond_true,cond_true,D3,cond_true]
   refine⟨_,_,rfl,rfl,rfl,q,r,λI aj=>s I (by omega),λv H al m=>?_,M⟩
   have:v≠b:=λe=>l (by rw[← e];exact m)
   exact L v H (by omega) m)
 rw[aa,ab,D3,D3,bU,bU,appL (by simp;omega) rfl,D3,Er]
 exact⟨c,rfl,rfl,ac,af,ad.ans λv d m=>ae v d d.2 m⟩
end
end
section
open Classical
theorem vG {g:Parity}{n:Nat}(h:GOk g n):nZ g.Arena=some (De n (-1)):=by
 have hn:=h.n256
 unfold nZ
 rw[h.lo,dg (by omega) rfl,D3,C6]
 obtain⟨d,h1,e,c⟩:=fill (f:=mr) (λ_=> -1) n (s0:=De n 0) (by simp) (λj d i hs=>rfl)
 rw[h1,D3,bU]
 congr 1
 apply List.ext_getElem?
 intro b
 rw[D9]
 by_cases a:b<n
 .rw[if_pos a,← bT];exact c b a
 .rw[if_neg a];exact List.getElem?_eq_none (by omega)
theorem wx {n:Nat}(hn:n<=256):sO (n:Int)=some (De n (-1)):=by
 unfold sO
 have hr:rng (n:Int)=some ():=by
  unfold rng
  first
   |rfl
   |rw[if_pos (by omega)]
 rw[hr,D3,show Dq ((n:Int)-0)=n from by omega]
 obtain⟨a,h1,c⟩:=ch (f:=ox) (λb (a:VI)=>a=De b (-1)) n (s:=[]) rfl (λb a d hs=>by
  subst hs
  unfold ox
  rw[app1 (by simp;omega) rfl,D3]
  exact⟨_,rfl,by rw[Es]⟩)
 rw[h1,D3,bU,c]
structure Solv (g:Parity) (W:Int->Prop) (k:VI):Prop where
 sol:Par.Sol (gI g) (Xn g.Prio.length) false W
 len:k.length=g.Prio.length
 pick:∀v x,idx k v=some x->x= -1\/0<=x
 ans:Par.Ans (gI g) (Xn g.Prio.length) (wB W) (pkL k)
theorem vl {g:Parity}(hp:c7 g=true):∃W k,sH g=some ⟨wonL g.Prio.length W,k⟩/\mL g=some ⟨wonL g.Prio.length W,k⟩/\jQ g=some (wonL g.Prio.length W)/\fl g=some (wonL g.Prio.length W)/\Solv g W k:=by
 have h:=GOk.of hp
 obtain⟨W,a,b,c⟩:=Ac h (oS hp)
 obtain⟨k,d,e,f,i,j⟩:=xA hp rfl c a
 refine⟨W,k,?_,?_,a,b,c,f,i,j⟩
 .unfold sH
  rw[mC,hp,D3,DD,cond_false,wx h.n256,D3,d];rfl
 .unfold mL
  rw[sX,hp,D3,DD,cond_false,vG h,D3,b,D3,e];rfl
end
def db (xs:VI) (v:Int):Int:=match xs.findIdx? (λx=>v==x) with | some a=>(a:Int) | none=> -1
theorem tP {xs:VI}{v:Int}(h:v∉xs):db xs v= -1:=by
 unfold db
 have:xs.findIdx? (λx=>v==x)=none:=by
  rw[El]
  intro x b
  simp only[beq_eq_false_iff_ne]
  exact λa=>h (a ▸ b)
 rw[this]
theorem p9 {xs:VI}{v:Int}(h:v∈xs):∃i:Nat,db xs v=(i:Int)/\i<xs.length/\xs[i]? =some v:=by
 unfold db
 cases a:xs.findIdx? (λx=>v==x) with
 |none=>
  rw[El]at a
  have:=a v h
  simp at this
 |some i=>
  rw[Em]at a
  obtain⟨h1,b,_⟩:=a
  refine⟨i,rfl,h1,?_⟩
  rw[ct h1]
  have:=beq_iff_eq.1 b
  rw[← this]
theorem zD (xs:VI) (v:Int):decide (db xs v<0)= !decide (v∈xs):=by
 by_cases h:v∈xs
 .obtain⟨a,h1,_⟩:=p9 h
  rw[h1]
  have:¬(a:Int)<0:=by omega
  simp[h,this]
 .rw[tP h]
  simp[h]
theorem qJ (xs:VI) (v:Int):cR xs v=some (db xs v):=jo xs v
def addN (xs:VI) (u:Int):VI:=if u∈xs then xs else xs++[u]
theorem tO {xs:VI}{u:Int}(h:u∉xs):db (xs++[u]) u=(xs.length:Nat):=by
 unfold db
 have:(xs++[u]).findIdx? (λx=>u==x)=some xs.length:=by
  rw[List.findIdx?_append]
  have h1:xs.findIdx? (λx=>u==x)=none:=by
   rw[El]
   intro x b
   simp only[beq_eq_false_iff_ne]
   exact λa=>h (a ▸ b)
  rw[h1]
  simp
 rw[this]
def Names (n:Nat) (xs:VI):Prop:=xs.Nodup/\∀x∈xs,0<=x/\x<n
theorem Names.len {n:Nat}{xs:VI}(h:Names n xs):xs.length<=n:=dx n xs h.1 h.2
theorem Names.add {n:Nat}{xs:VI}(h:Names n xs){u:Int}(f:0<=u) (g:u<n):Names n (addN xs u)/\∀(k:Nat) v,xs[k]? =some v->(addN xs u)[k]? =some v:=by
 unfold addN
 by_cases c:u∈xs
 .rw[if_pos c];exact⟨h,λk v hk=>hk⟩
 .rw[if_neg c]
  refine⟨⟨?_,λx b=>?_⟩,λk v hk=>?_⟩
  .rw[DT]
   refine⟨h.1,by simp,λa ha i d e=>?_⟩
   rw[CC]at d
   exact c (by rw[← d,← e];exact ha)
  .rw[CA,CC]at b
   rcases b with b|rfl
   .exact h.2 x b
   .exact⟨f,g⟩
  .rw[CZ (Cu.1 hk).1];exact hk
theorem wb {xs:VI}{v:Int}{j:Nat}(h:xs[j]? =some v) (hb:∀a,a<j->xs[a]?≠some v):db xs v=(j:Int):=by
 have d:=(Cu.1 h).1
 unfold db
 have:xs.findIdx? (λx=>v==x)=some j:=by
  rw[Em]
  refine⟨d,?_,λa c=>?_⟩
  .have:=(Cu.1 h).2
   simp[this]
  .have h1:=hb a c
   rw[ct (by omega)]at h1
   simp only[Bool.not_eq_true,beq_eq_false_iff_ne]
   exact λb=>h1 (by rw[b])
 rw[this]
theorem BD {x k:Place}(h:(x.At==k.At&&x.Record==k.Record)=true):x=k:=by
 rw[rx,beq_iff_eq,beq_iff_eq]at h
 cases x
 cases k
 simp only at h
 rw[h.1,h.2]
def locR (K:VL) (k:Place):Option Nat:=K.findIdx? (λx=>x.At==k.At&&x.Record==k.Record)
def addR (K:VL) (k:Place):VL:=match locR K k with | some _=>K | none=>K++[k]
def atR (K:VL) (k:Place):Int:=match locR K k with | some a=>(a:Int) | none=>(K.length:Int)
theorem vq (K:VL) (k:Place):K.length<=(addR K k).length/\(addR K k).length<=K.length+1:=by
 unfold addR
 cases locR K k <;> simp
theorem vp {K:VL}{k:Place}{i:Nat}{v:Place}(h:K[i]? =some v):(addR K k)[i]? =some v:=by
 unfold addR
 cases locR K k with
 |some _=>exact h
 |none=>
  have:=(Cu.1 h).1
  dsimp only
  rw[CZ this];exact h
theorem yX {K:VL}{k x:Place}(h:x∈addR K k):x∈K\/x=k:=by
 unfold addR at h
 cases a:locR K k with
 |some _=>rw[a]at h;exact .inl h
 |none=>rw[a]at h;simpa using h
theorem yB {K:VL}{k:Place}{i:Nat}(h:locR K k=some i):K[i]? =some k:=by
 unfold locR at h
 obtain⟨h1,a,b⟩:=Em.1 h
 have:k=K[i]:=(BD a).symm
 rw[ct h1,← this]
theorem yA {K:VL}{k:Place}(h:locR K k=none):k∉K:=λhm=>by
 unfold locR at h
 rw[El]at h
 have:=h k hm
 simp at this
theorem Aj (K:VL) (k:Place):0<=atR K k/\(addR K k)[(atR K k).toNat]? =some k:=by
 unfold atR addR
 cases h:locR K k with
 |none=>exact⟨by dsimp only;omega,by dsimp only;rw[Int.toNat_natCast];simp⟩
 |some a=>exact⟨by dsimp only;omega,by dsimp only;rw[Int.toNat_natCast];exact yB h⟩
theorem wQ {K:VL}(hn:K.Nodup) (k:Place):(addR K k).Nodup:=by
 unfold addR
 cases h:locR K k with
 |none=>
  dsimp only
  refine DT.2 ⟨hn,by simp,λa ha c hb b=>?_⟩
  rw[CC]at hb
  exact yA h (hb ▸ b ▸ ha)
 |some d=>exact hn
def ez (a:Nat->Place) (K:VL):Nat->VL×VI
 |0=>(K,[])
 |j+1=>(addR (ez a K j).1 (a j),(ez a K j).2++[atR (ez a K j).1 (a j)])
structure RowR (ky:Nat->Place) (K:VL) (j:Nat) (K':VL) (row:VI):Prop where
 pre:∀(i:Nat) v,K[i]? =some v->K'[i]? =some v
 len:K.length<=K'.length
 le:K'.length<=K.length+j
 nod:K.Nodup->K'.Nodup
 rl:row.length=j
 at_:∀i:Nat,i<j->∃x,row[i]? =some x/\0<=x/\K'[x.toNat]? =some (ky i)
 mem:∀v∈K',v∈K\/∃i:Nat,i<j/\v=ky i
theorem nu (d:Nat->Place) (K:VL):∀a,RowR d K a (ez d K a).1 (ez d K a).2
 |0=>⟨λ_ _ h=>h,CK _,CK _,id,rfl,λb f=>absurd f (D1 b),λv h=> .inl h⟩
 |a+1=>by
  have h:=nu d K a
  unfold ez
  generalize ez d K a=F at *
  have hl:=vq F.1 (d a)
  obtain⟨i,j⟩:=Aj F.1 (d a)
  refine⟨λb v c=>vp (h.pre b v c),D0 h.len hl.1,?_,λhn=>wQ (h.nod hn) _,by simp[h.rl],λb f=>?_,λv c=>?_⟩
  .have:=h.le;dsimp only;omega
  .by_cases e:b=a
   .subst e
    refine⟨_,by rw[← h.rl];simp,i,j⟩
   .obtain⟨x,g,m,n⟩:=h.at_ b (by omega)
    have l:=(Cu.1 g).1
    exact⟨x,by rw[CZ l];exact g,m,vp n⟩
  .rcases yX c with c|c
   .rcases h.mem v c with k|⟨b,f,e⟩
    .exact .inl k
    .exact .inr ⟨b,by omega,e⟩
   .exact .inr ⟨a,by omega,c⟩
def de (ps:VP) (v i:Int):Bool:=match idx ps i with | some p=>decide (v∈p.Give) | none=>false
def askI (ps:VP) (v i:Int):Bool:=match idx ps i with | some p=>decide (v∈p.Ask) | none=>false
def gF (ps:VP) (rc:VI) (v:Int):VI:=rc.filter (de ps v)++rc.filter λa=> !de ps v a
def dj (f:Int->Bool) (xs:VI):Nat->Int
 |0=> -1
 |j+1=>bif (match xs[j]? with | some x=>f x | none=>false) then(j:Int) else dj f xs j
def lM (ps:VP) (rc:VI) (v:Int):Int:=
 bif decide (dj (askI ps v) rc rc.length<0)&&decide (dj (de ps v) rc rc.length<0) then 0
 else bif decide (dj (de ps v) rc rc.length<dj (askI ps v) rc rc.length) then 2 * dj (askI ps v) rc rc.length+1
 else 2 * dj (de ps v) rc rc.length+2
theorem jE (f:Int->Bool) (xs:VI):∀a:Nat,-1<=dj f xs a/\dj f xs a<a
 |0=>by unfold dj;omega
 |a+1=>by
  have:=jE f xs a
  unfold dj
  cases(match xs[a]? with | some x=>f x | none=>false) with
  |true=>rw[cond_true];omega
  |false=>rw[cond_false];omega
theorem zE (ps:VP){rc:VI}(v:Int) (h:rc.length<=4):inR 41 (lM ps rc v)=true:=by
 have a:=jE (askI ps v) rc rc.length
 have g:=jE (de ps v) rc rc.length
 rw[gE]
 unfold lM
 generalize dj (askI ps v) rc rc.length=x at *
 generalize dj (de ps v) rc rc.length=y at *
 by_cases h1:x<0
 .by_cases c:y<0
  .simp[h1,c]
  .by_cases b:y<x
   .omega
   .simp only[h1,c,b,decide_true,decide_false,Bool.and_false,cond_false];omega
 .by_cases b:y<x
  .simp only[h1,b,decide_true,decide_false,Bool.false_and,cond_false,cond_true];omega
  .simp only[h1,b,decide_false,Bool.false_and,cond_false];omega
theorem nk (p:Int->Bool):∀xs:VI,(xs.filter p).length+(xs.filter λx=> !p x).length=xs.length
 | []=>rfl
 |x::xs=>by
  have:=nk p xs
  simp only[List.filter_cons]
  cases p x <;> simp <;> omega
theorem vU (ps:VP){rc:VI}{k:Nat}(v:Int) (hl:rc.length=k) (hr:∀x∈rc,0<=x/\x<(k:Int)):(gF ps rc v).length=k/\∀x∈gF ps rc v,0<=x/\x<(k:Int):=by
 unfold gF
 refine⟨by rw[Cw,nk,hl],λx a=>?_⟩
 rcases CA.1 a with h|h
 .exact hr x (DQ.1 h).1
 .exact hr x (DQ.1 h).1
theorem vT (ps:VP){rc:VI}(v:Int) (h:rc.Nodup):(gF ps rc v).Nodup:=by
 unfold gF
 rw[DT]
 refine⟨h.sublist List.filter_sublist,h.sublist List.filter_sublist,λa ha d hb c=>?_⟩
 subst c
 have h1:=(DQ.1 ha).2
 have b:=(DQ.1 hb).2
 rw[h1]at b
 cases b
structure VOk (n k:Nat) (v:Place):Prop where
 a0:0<=v.At
 a1:v.At<(n:Int)
 rl:v.Record.length=k
 rin:∀x∈v.Record,0<=x/\x<(k:Int)
 nd:v.Record.Nodup
def kyR (ar rc:VI) (i:Nat):Place:=⟨ar.getD i 0,rc⟩
structure RowP (P:VL) (ar rc r:VI):Prop where
 asc:Asc r
 len:r.length=ar.length
 to:∀y∈r,0<=y/\∃u∈ar,P[y.toNat]? =some ⟨u,rc⟩
 has:∀u∈ar,∃y∈r,0<=y/\P[y.toNat]? =some ⟨u,rc⟩
theorem RowP.mono {P P':VL}{ar rc r:VI}(h:RowP P ar rc r) (hp:∀(i:Nat) v,P[i]? =some v->P'[i]? =some v):RowP P' ar rc r:=
 ⟨h.asc,h.len,λe g=>by
  obtain⟨a,d,b,c⟩:=h.to e g
  exact⟨a,d,b,hp _ _ c⟩,λd f=>by
  obtain⟨e,a,b,c⟩:=h.has d f
  exact⟨e,a,b,hp _ _ c⟩⟩
theorem xp {ar rc:VI}{P:VL}(hn:ar.Nodup):(ez (kyR ar rc) P ar.length).2.Nodup:=by
 have c:=nu (kyR ar rc) P ar.length
 generalize ez (kyR ar rc) P ar.length=G at *
 have hrl:=c.rl
 refine DW.2 λa b i k j g=>?_
 obtain⟨x,d,_,m⟩:=c.at_ a (by omega)
 obtain⟨n,e,_,f⟩:=c.at_ b (by omega)
 rw[ct i]at d
 rw[ct k]at e
 have l:x=n:=by rw[← Ds d,← Ds e];exact g
 subst l
 rw[m]at f
 have:=congrArg Place.At (Ds f)
 simp only[kyR,bR,ct (show a<ar.length by omega),ct (show b<ar.length by omega),Option.getD_some]at this
 exact(DW.1 hn) a b (by omega) (by omega) j this
theorem A4 {ar rc:VI}{P:VL}{S:VI}(j:Asc S) (hl:S.length=ar.length) (hm:∀d,d∈S↔d∈(ez (kyR ar rc) P ar.length).2):RowP (ez (kyR ar rc) P ar.length).1 ar rc S:=by
 have e:=nu (kyR ar rc) P ar.length
 generalize ez (kyR ar rc) P ar.length=G at *
 have hrl:=e.rl
 have k:∀a,a<ar.length->kyR ar rc a=⟨ar.getD a 0,rc⟩/\ar.getD a 0∈ar:=λa b=>⟨rfl,by
  rw[bR,ct b]
  exact En b⟩
 refine⟨j,hl,λd m=>?_,λp l=>?_⟩
 .obtain⟨a,b⟩:=DK ((hm d).1 m)
  have i:=(Cu.1 b).1
  obtain⟨x,c,f,g⟩:=e.at_ a (by omega)
  rw[b]at c
  cases c
  obtain⟨n,o⟩:=k a (by omega)
  exact⟨f,_,o,by rw[g,n]⟩
 .obtain⟨a,b⟩:=DK l
  have i:=(Cu.1 b).1
  obtain⟨x,c,f,g⟩:=e.at_ a i
  refine⟨x,(hm x).2 (Db c),f,?_⟩
  rw[g]
  unfold kyR
  rw[bR,b];rfl
structure RecS (a:Arena) (ps:VP) (st:Place) (P:VL) (i:Nat) (O:VI) (N:VV) (Q:VI):Prop where
 nod:P.Nodup
 zero:P[0]? =some st
 il:i<=P.length
 ol:O.length=i
 nl:N.length=i
 ql:Q.length=i
 inn:∀v∈P,VOk a.Owner.length ps.length v
 row:∀(j:Nat) v,j<i->P[j]? =some v->O[j]? =idx a.Owner v.At/\Q[j]? =some (lM ps v.Record v.At)/\∃r ar,N[j]? =some r/\idx a.Next v.At=some ar/\RowP P ar (gF ps v.Record v.At) r
theorem RecS.init {a:Arena}{ps:VP}{st:Place}(h:VOk a.Owner.length ps.length st):RecS a ps st [st] 0 [] [] []:=
 ⟨by simp,rfl,by simp,rfl,rfl,rfl,λv c=>by rw[CC.1 c];exact h,λd v b=>absurd b (D1 d)⟩
theorem RecS.step {a:Arena}{ps:VP}{st:Place}{P:VL}{i:Nat}{O:VI}{N:VV}{Q:VI}(h:RecS a ps st P i O N Q){v:Place}(l:P[i]? =some v){ar:VI}(har:idx a.Next v.At=some ar) (D:∀b∈ar,0<=b/\b<(a.Owner.length:Int)){o:Int}(H:idx a.Owner v.At=some o){S:VI}
 (A:Asc S) (B:S.length=ar.length) (C:∀q,q∈S↔q∈(ez (kyR ar (gF ps v.Record v.At)) P ar.length).2):
 RecS a ps st (ez (kyR ar (gF ps v.Record v.At)) P ar.length).1 (i+1) (O++[o]) (N++[S]) (Q++[lM ps v.Record v.At]):=by
 have z:=A4 A B C
 have d:=nu (kyR ar (gF ps v.Record v.At)) P ar.length
 have m:=h.inn v (Db l)
 have hn:=vU ps v.At m.rl m.rin
 have F:∀x,x<ar.length->VOk a.Owner.length ps.length (kyR ar (gF ps v.Record v.At) x):=λx f=>by
  have hm:ar.getD x 0∈ar:=by
   rw[bR,ct f]
   exact En f
  obtain⟨K,L⟩:=D _ hm
  exact⟨K,L,hn.1,hn.2,vT ps v.At m.nd⟩
 generalize ez (kyR ar (gF ps v.Record v.At)) P ar.length=G at *
 have M:=(Cu.1 l).1
 have h1:=h.ol
 have n:=h.nl
 have p:=h.ql
 have T:=d.len
 refine⟨d.nod h.nod,d.pre 0 _ h.zero,by omega,by simp[h1],by simp[n],by simp[p],λb e=>?_,λc b R e=>?_⟩
 .rcases d.mem b e with hm|⟨x,f,g⟩
  .exact h.inn b hm
  .rw[g];exact F x f
 .by_cases g:c=i
  .subst g
   have k:b=v:=by
    have:=d.pre c v l
    rw[e]at this
    exact Ds this
   subst k
   refine⟨by rw[← h1,H];simp,by rw[← p];simp,S,ar,by rw[← n];simp,har,z⟩
  .have E:c<i:=by omega
   have j:P[c]? =some (P[c]'(by omega)):=ct (by omega)
   have k:b=P[c]'(by omega):=by
    have:=d.pre c _ j
    rw[e]at this
    exact Ds this
   rw[← k]at j
   obtain⟨s,t,I,r,u,w,y⟩:=h.row c b E j
   exact⟨by rw[CZ (by omega)];exact s,by rw[CZ (by omega)];exact t,I,r,by rw[CZ (by omega)];exact u,w,y.mono d.pre⟩
structure RecG (a:Arena) (ps:VP) (st:Place) (P:VL) (g:Parity):Prop where
 game:RecS a ps st P P.length g.Arena.Owner g.Arena.Next g.Prio
 le:P.length<=256
theorem RecG.ok {a:Arena}{ps:VP}{st:Place}{P:VL}{g:Parity}(h:RecG a ps st P g) (ha:er a=true) (r:∀l∈a.Owner,inR 2 l=true) (q:∀(i:Nat) row,a.Next[i]? =some row->1<=row.length/\row.length<=16) (hk:ps.length<=4):c7 g=true:=by
 have hr:=h.game
 have h0:=(Cu.1 hr.zero).1
 have h1:=hr.ol
 have A:=hr.nl
 have B:=hr.ql
 have C:=h.le
 have k:∀b:Nat,b<P.length->∃v,P[b]? =some v:=λb c=>⟨_,ct c⟩
 refine yG (by omega) (by omega) (by omega) (by omega) (λrow t=>?_) (λl s=>?_) λx w=>?_
 .obtain⟨b,c⟩:=DK t
  have p:=(Cu.1 c).1
  obtain⟨v,d⟩:=k b (by omega)
  obtain⟨_,_,F,ar,o,f,j⟩:=hr.row b v (by omega) d
  rw[c]at o
  cases o
  have m:=(eu f).1
  rw[cH m]at f
  obtain⟨D,E⟩:=q _ _ f
  have hl:=j.len
  refine⟨by omega,by omega,gA.2 ⟨λz y=>?_,j.asc⟩⟩
  obtain⟨H,G,_,u⟩:=j.to z y
  have:=(Cu.1 u).1
  omega
 .obtain⟨b,c⟩:=DK s
  have p:=(Cu.1 c).1
  obtain⟨v,d⟩:=k b (by omega)
  obtain⟨e,_⟩:=hr.row b v (by omega) d
  rw[c]at e
  have m:=(eu e.symm).1
  rw[cH m]at e
  exact r l (Db e.symm)
 .obtain⟨b,c⟩:=DK w
  have p:=(Cu.1 c).1
  obtain⟨v,d⟩:=k b (by omega)
  obtain⟨_,n,_⟩:=hr.row b v (by omega) d
  rw[c]at n
  cases n
  exact zE ps v.At (by have:=(hr.inn v (Db d)).rl;omega)
def firstR (k:Nat):VI:=(Ee k).map Int.ofNat
theorem uh (k:Nat):(firstR k).Nodup:=List.Pairwise.map _ (λ_ _ b a=>b (Int.ofNat.inj a)) List.nodup_range
theorem xM (row:VI) (v:Int):lY row v=some (decide (v∈row)):=by
 unfold lY
 rw[dS (f:=kA row v) (r:=true) (xs:=row) (λx=> !(x==v)) rfl (λd x a=>by
  unfold kA
  rw[bT,a,D3]
  cases x==v <;> rfl)]
 by_cases h:v∈row
 .rw[if_neg,decide_eq_true h];rfl
  rw[DI]
  intro c
  have:=c v h
  simp at this
 .rw[if_pos,decide_eq_false h];rfl
  rw[DI]
  intro x a
  simp only[Bool.not_eq_true',beq_eq_false_iff_ne,ne_eq]
  exact λb=>h (b ▸ a)
theorem B8 (p0 p1:VI):iM p0 p1=some (decide (p0=p1)):=by
 unfold iM
 by_cases h:p0.length=p1.length
 .rw[show((p0.length:Int) !=(p1.length:Int))=false from by rw[h];simp,cond_false]
  rw[uf (f:=fx p0 p1) (r:=false) (λx b=>decide (x=b)) h (λg x b d e=>by
   unfold fx
   rw[bT,bT,d,e,D3,D3]
   by_cases a:x=b
   .subst a;simp
   .have c:(x==b)=false:=by simp[a]
    simp[bne,c,a])]
  rw[nI h]
  cases decide (p0=p1) <;> rfl
 .rw[show((p0.length:Int) !=(p1.length:Int))=true from by simp only[bne_iff_ne,ne_eq];omega,cond_true,decide_eq_false (λa=>h (by rw[a]))]
def pZ (P:VL) (k:Place):Int:=match locR P k with | some a=>(a:Int) | none=> -1
theorem Bg (P:VL) (u:Int) (rc:VI):mW P u rc=some (pZ P ⟨u,rc⟩):=by
 unfold mW
 rw[iq (f:=jK P u rc) (λx=>x.At==u&&x.Record==rc) (λb=>(b:Int)) (xs:=P) (λb x c=>by
  unfold jK
  rw[bT,c,D3]
  by_cases h1:x.At=u
  .rw[show(x.At==u)=true from by simpa using h1,cond_true,D3,B8]
   by_cases a:x.Record=rc
   .rw[decide_eq_true a,show(x.Record==rc)=true from by simpa using a];rfl
   .rw[decide_eq_false a,show(x.Record==rc)=false from by simpa using a];rfl
  .rw[show(x.At==u)=false from by simpa using h1];rfl)]
 unfold pZ locR
 cases P.findIdx? (λx=>x.At==u&&x.Record==rc) <;> rfl
section
variable {ps:VP}{rc:VI}(hr:∀x∈rc,0<=x/\x<(ps.length:Int)) (hl:rc.length<=1000)
include hr hl
theorem Bz (v:Int):jZ ps rc v=some (gF ps rc v):=by
 unfold jZ
 obtain⟨d,h1,g⟩:=ch (f:=fQ ps rc v) (λa (d:VI×VI)=>d=((rc.take a).filter (de ps v),(rc.take a).filter λb=> !de ps v b)) rc.length (s:=([],[])) rfl (λa d j hs=>by
  subst hs
  have c:rc[a]? =some rc[a]:=ct j
  generalize rc[a]=x at c
  obtain⟨m,n⟩:=hr x (Db c)
  obtain⟨p,hp,_⟩:=iX (xs:=ps) m n
  have i:de ps v x=decide (v∈p.Give):=by unfold de;rw[hp]
  have k:((rc.take a).filter (de ps v)).length<=1000:=D0 (DL ..) (by rw[C7];omega)
  have l:((rc.take a).filter λb=> !de ps v b).length<=1000:=D0 (DL ..) (by rw[C7];omega)
  unfold fQ
  rw[bT,c,D3,hp,D3,xM,← i,D3,DX,c]
  simp only[Option.toList_some,List.filter_append]
  cases e:de ps v x with
  |true=>
   simp only[cond_true,D3]
   rw[app1 (by omega) rfl]
   exact⟨_,rfl,by simp[e]⟩
  |false=>
   simp only[cond_false,D3]
   rw[app1 (by omega) rfl]
   exact⟨_,rfl,by simp[e]⟩)
 rw[h1,g,D3,bU,DZ]
 have k:(rc.filter (de ps v)).length<=1000:=D0 (DL ..) hl
 have l:(rc.filter λb=> !de ps v b).length<=1000:=D0 (DL ..) hl
 dsimp only
 rw[appL (by omega) rfl];rfl
theorem BE (v:Int):j4 ps rc v=some (lM ps rc v):=by
 unfold j4
 obtain⟨d,h1,j⟩:=ch (f:=fR ps rc v) (λb (d:Int×Int)=>d=(dj (askI ps v) rc b,dj (de ps v) rc b)) rc.length (s:=(-1,-1)) rfl (λb d l hs=>by
  subst hs
  have c:rc[b]? =some rc[b]:=ct l
  generalize rc[b]=x at c
  obtain⟨m,n⟩:=hr x (Db c)
  obtain⟨p,hp,_⟩:=iX (xs:=ps) m n
  have k:de ps v x=decide (v∈p.Give):=by unfold de;rw[hp]
  have ha:askI ps v x=decide (v∈p.Ask):=by unfold askI;rw[hp]
  have e:dj (askI ps v) rc (b+1)=bif askI ps v x then(b:Int) else dj (askI ps v) rc b:=by
   show(bif (match rc[b]? with | some x=>askI ps v x | none=>false) then(b:Int) else _)=_
   rw[c]
  have i:dj (de ps v) rc (b+1)=bif de ps v x then(b:Int) else dj (de ps v) rc b:=by
   show(bif (match rc[b]? with | some x=>de ps v x | none=>false) then(b:Int) else _)=_
   rw[c]
  refine⟨_,?_,rfl⟩
  unfold fR
  simp only[bT,c,D3,hp,xM,← k,← ha]
  rw[e,i]
  cases askI ps v x <;> cases de ps v x <;> rfl)
 rw[h1,j,D3,bU]
 have a:=jE (askI ps v) rc rc.length
 have g:=jE (de ps v) rc rc.length
 unfold lM
 dsimp only
 generalize dj (askI ps v) rc rc.length=x at *
 generalize dj (de ps v) rc rc.length=y at *
 rw[wr' (z:=2 * x) (by omega) (by omega),wr' (z:=2 * x+1) (by omega) (by omega),wr' (z:=2 * y) (by omega) (by omega),wr' (z:=2 * y+2) (by omega) (by omega)]
 cases decide (x<0) <;> cases decide (y<0) <;> cases decide (y<x) <;> rfl
end
theorem zX {xs:VI}(hn:xs.Nodup) (hl:xs.length<=1000):∃o,kB xs=some o/\Asc o/\o.length=xs.length/\∀c,c∈o↔c∈xs:=by
 unfold kB
 obtain⟨a,h1,z,A,B⟩:=ch (f:=ic xs) (λl (a:VI)=>Asc a/\a.length=l/\∀c,c∈a↔c∈xs.take l) xs.length (s:=[]) ⟨List.Pairwise.nil,rfl,λc=>by simp⟩ (λl a v ⟨p,y,u⟩=>by
  have n:xs[l]? =some xs[l]:=ct v
  have P:=n
  generalize hxe:xs[l]=x at n
  have q:x∉a:=λhm=>by
   obtain⟨b,i⟩:=DK ((u x).1 hm)
   have C:=(Cu.1 i).1
   rw[C7]at C
   rw[List.getElem?_take,if_pos (by omega),ct (by omega)]at i
   have:=(DW.1 hn) b l (by omega) v (by omega)
   exact this ((Ds i).trans hxe.symm)
  obtain⟨K,N,O⟩:=cM (f:=ie xs (l:Int) a) (λw (k:Int)=>∃m:Nat,k=(m:Int)/\m+w=a.length/\∀(b:Nat) d,m<=b->a[b]? =some d->x<d) (λ_=>False) (λk=>∃m:Nat,k=(m:Int)/\m<=a.length/\(∀(b:Nat) d,m<=b->a[b]? =some d->x<d)/\∀(b:Nat) d,b<m->a[b]? =some d->d<x) a.length (λw k ⟨m,e,hm,i⟩=>by
   subst e
   unfold ie
   by_cases h0:0<m
   .have j:a[m-1]? =some (a[m-1]'(by omega)):=ct (by omega)
    generalize a[m-1]'(by omega)=d at j
    have E:Dr .i64 ((m:Int)-1)=((m-1:Nat):Int):=by rw[wr' (by omega) (by omega)];omega
    rw[decide_eq_true (show(0:Int)<(m:Int) by omega),cond_true,E,bT,j,D3,bT,n,D3,D3]
    by_cases t:x<d
    .rw[decide_eq_true t,cond_true]
     refine⟨_,rfl,by omega,m-1,rfl,by omega,λb c s g=>?_⟩
     by_cases e:b=m-1
     .subst e
      rw[j]at g
      cases g
      exact t
     .exact i b c (by omega) g
    .rw[decide_eq_false t,cond_false]
     refine⟨_,rfl,m,rfl,by omega,i,λb c s g=>?_⟩
     have F:d<x:=by
      have:d≠x:=λe=>q (e ▸ Db j)
      omega
     by_cases e:b=m-1
     .subst e
      rw[j]at g
      cases g
      exact F
     .have:=ub p g j (by omega)
      omega
   .have D:m=0:=by omega
    subst D
    rw[decide_eq_false (show ¬(0:Int)<((0:Nat):Int) by omega),cond_false,D3,cond_false]
    exact⟨_,rfl,0,rfl,by omega,i,λb c s _=>absurd s (D1 b)⟩) (2 ^ 64) 0 (a.length:Int) (by omega) ⟨a.length,rfl,by omega,λb d i j=>by
    have:=(Cu.1 j).1
    omega⟩ (by omega)
  match K,O with
  |.inr k,⟨m,e,G,H,I⟩=>
   subst e
   unfold ic
   have L:subS a 0 (m:Int)=some (a.take m):=by
    unfold subS
    rw[if_pos ⟨by omega,by omega,by omega⟩]
    simp
   have M:subS a (m:Int) (a.length:Int)=some (a.drop m):=by
    unfold subS
    rw[if_pos ⟨by omega,by omega,by omega⟩]
    simp
   have Q:(a.take m).length<=1000:=by rw[C7];omega
   have R:(a.drop m).length<=1000:=by rw[List.length_drop];omega
   rw[N,D3,bU,L,D3,appL (by simp;omega) rfl,D3,bT,n,D3,Er,app1 (by omega) rfl,D3,M,D3,appL (by rw[Cw];simp only[Cy,DO];omega) rfl,D3]
   have r:(a.take m++[x])++a.drop m=ins x a:=by
    rw[CS]
    exact xP p q G I (λc g=>H m c (CK _) g)
   refine⟨_,rfl,?_,?_,λc=>?_⟩
   .rw[r];exact rn p
   .rw[r,xd q p,y]
   .rw[r,rt q,u,DX,n]
    simp only[Option.toList_some,CA,CC]
    constructor
    .rintro(h|h)
     .exact .inr h
     .exact .inl h
    .rintro(h|h)
     .exact .inr h
     .exact .inl h)
 rw[h1,D3,bU]
 exact⟨a,rfl,z,A,λc=>by rw[B,DZ]⟩
theorem r9 {P:VL}{k:Place}:(pZ P k<0->addR P k=P++[k]/\atR P k=(P.length:Int))/\(¬pZ P k<0->addR P k=P/\atR P k=pZ P k):=by
 unfold pZ addR atR
 cases locR P k with
 |none=>exact⟨λ_=>⟨rfl,rfl⟩,λh=>absurd (by show(-1:Int)<0;omega) h⟩
 |some a=>exact⟨λh=>absurd h (by show ¬((a:Int)<0);omega),λ_=>⟨rfl,rfl⟩⟩
theorem yN (a:Nat->Place) (K:VL):∀{i j:Nat},i<=j->(ez a K i).1.length<=(ez a K j).1.length:=by
 intro i j h
 induction h with
 |refl=>exact CK _
 |step h b=>
  refine D0 b ?_
  show _<=(addR _ _).length
  exact(vq _ _).1
theorem conR (l:VI) (v:Int):bY l v=some (decide (v∈l)):=by
 rw[cP]
 congr 1
 rw[DC]
 simp
theorem AH (ps:VP) (rc:VI) (v:Int):jt ps rc v=jZ ps rc v:=by
 have h:fW ps rc v=fQ ps rc v:=by
  funext j s
  unfold fW fQ
  cases idx rc j with
  |none=>rfl
  |some x=>
   simp only[D3]
   cases idx ps x with
   |none=>rfl
   |some p=>simp only[D3,xM,conR]
 unfold jt jZ
 rw[h]
theorem AP (ps:VP) (rc:VI) (v:Int):jw ps rc v=j4 ps rc v:=by
 have h:fX ps rc v=fR ps rc v:=by
  funext j s
  unfold fX fR
  cases idx rc j with
  |none=>rfl
  |some x=>
   simp only[D3]
   cases idx ps x with
   |none=>rfl
   |some p=>simp only[D3,xM,conR]
 unfold jw j4
 rw[h]
theorem xj (P:VL) (u:Int) (rc:VI):mO P u rc=some (pZ P ⟨u,rc⟩):=by
 unfold mO
 rw[eA (λx=>x.At==u&&x.Record==rc) (λx _=>by
  unfold kq
  by_cases h1:x.At=u
  .rw[show(x.At==u)=true from by simpa using h1,cond_true,fE]
   by_cases a:x.Record=rc
   .rw[decide_eq_true a,show(x.Record==rc)=true from by simpa using a];rfl
   .rw[decide_eq_false a,show(x.Record==rc)=false from by simpa using a];rfl
  .rw[show(x.At==u)=false from by simpa using h1];rfl)]
 rfl
def noRec:Parity×VL×Bool:=(⟨⟨[],[]⟩,[]⟩,[],false)
section
variable {a:Arena}{v:Place}{ar rc:VI}{P:VL}(har:idx a.Next v.At=some ar) (hal:ar.length<=16) (hrl:rc.length<=4)
include har hal hrl
theorem B4 (r:P.length<=256):∃i,cd (gv a v rc) (2 ^ 64) (P,[],0)=some i/\(match i with
 |.inl j=>j=noRec/\256<(ez (kyR ar rc) P ar.length).1.length
 |.inr c=>c.1=(ez (kyR ar rc) P ar.length).1/\c.2.1=(ez (kyR ar rc) P ar.length).2/\(ez (kyR ar rc) P ar.length).1.length<=256):=by
 obtain⟨i,y,z⟩:=cM (f:=gv a v rc) (λb (c:VL×VI×Int)=>c=((ez (kyR ar rc) P b).1,(ez (kyR ar rc) P b).2,(b:Int))/\b<=ar.length/\(ez (kyR ar rc) P b).1.length<=256) (λj=>j=noRec/\256<(ez (kyR ar rc) P ar.length).1.length)
  (λc=>c.1=(ez (kyR ar rc) P ar.length).1/\c.2.1=(ez (kyR ar rc) P ar.length).2/\(ez (kyR ar rc) P ar.length).1.length<=256) ar.length (λb c ⟨q,A,p⟩=>by
  subst q
  have x:=nu (kyR ar rc) P b
  have B:=x.rl
  unfold gv
  dsimp only
  rw[har,D3]
  by_cases s:b<ar.length
  .have n:ar[b]? =some ar[b]:=ct s
   have m:kyR ar rc b=⟨ar[b],rc⟩:=by unfold kyR;rw[bR,n];rfl
   generalize ar[b]=u at n m
   obtain⟨t,w⟩:=r9 (P:=(ez (kyR ar rc) P b).1) (k:=kyR ar rc b)
   have e:ez (kyR ar rc) P (b+1)=(addR (ez (kyR ar rc) P b).1 (kyR ar rc b),(ez (kyR ar rc) P b).2++[atR (ez (kyR ar rc) P b).1 (kyR ar rc b)]):=rfl
   have hm:=yN (kyR ar rc) P (show b+1<=ar.length by omega)
   rw[decide_eq_true (show(b:Int)<(ar.length:Int) by omega),cond_true,D3,bT,n,D3,Bg,← m,D3]
   by_cases g:pZ (ez (kyR ar rc) P b).1 (kyR ar rc b)<0
   .obtain⟨d,l⟩:=t g
    rw[e,d]at hm
    simp only[Cw,Cy,DO]at hm
    by_cases o:(256:Int)<=((ez (kyR ar rc) P b).1.length:Int)
    .rw[decide_eq_true g,cond_true,decide_eq_true o,cond_true]
     exact⟨_,rfl,rfl,by omega⟩
    .rw[decide_eq_true g,cond_true,decide_eq_false o,cond_false,appL (by simp;omega) rfl,D3,Er,app1 (by omega) rfl,D3,D3,bU]
     dsimp only
     rw[app1 (by omega) rfl,D3,wr' (by omega) (by omega)]
     refine⟨_,rfl,by omega,?_,by omega,?_⟩
     .rw[e,d,l,← m];rfl
     .rw[e,d,Cw];simp only[Cy,DO];omega
   .obtain⟨d,l⟩:=w g
    rw[decide_eq_false g,cond_false,D3,bU]
    dsimp only
    rw[app1 (by omega) rfl,D3,wr' (by omega) (by omega)]
    refine⟨_,rfl,by omega,?_,by omega,?_⟩
    .rw[e,d,l];rfl
    .rw[e,d];exact p
  .have:b=ar.length:=by omega
   subst this
   rw[decide_eq_false (show ¬((ar.length:Nat):Int)<(ar.length:Int) by omega),cond_false]
   exact⟨_,rfl,rfl,rfl,p⟩) (2 ^ 64) 0 (P,[],0) (by omega) ⟨rfl,Nat.zero_le _,r⟩ (by omega)
 exact⟨i,y,by
  match i,z with
  |.inl j,h=>exact h
  |.inr c,h=>exact h⟩
omit har in
theorem Bp (q:P.length<=1000):cntM (co rc ar) ar.length 0 (P,[])=some (.inr (ez (kyR ar rc) P ar.length)):=by
 obtain⟨c,h1,m⟩:=ch (f:=co rc ar) (λa c=>c=ez (kyR ar rc) P a) ar.length (s:=(P,[])) rfl (λa c n l=>by
  subst l
  have j:=nu (kyR ar rc) P a
  have s:=j.rl
  have r:=j.le
  have i:ar[a]? =some ar[a]:=ct n
  have g:kyR ar rc a=⟨ar[a],rc⟩:=by unfold kyR;rw[bR,i];rfl
  generalize ar[a]=u at i g
  obtain⟨o,p⟩:=r9 (P:=(ez (kyR ar rc) P a).1) (k:=kyR ar rc a)
  refine⟨_,?_,rfl⟩
  unfold co
  rw[bT,i,D3,xj,← g,D3]
  show _=some (Sum.inr (Sum.inr (addR (ez (kyR ar rc) P a).1 (kyR ar rc a),(ez (kyR ar rc) P a).2++[atR (ez (kyR ar rc) P a).1 (kyR ar rc a)])))
  by_cases b:pZ (ez (kyR ar rc) P a).1 (kyR ar rc a)<0
  .obtain⟨d,e⟩:=o b
   rw[decide_eq_true b,cond_true,appL (by simp;omega) rfl,D3,Er,app1 (by omega) rfl,D3,D3]
   dsimp only
   rw[app1 (by omega) rfl,D3,d,e,← g]
  .obtain⟨d,e⟩:=p b
   rw[decide_eq_false b,cond_false,D3]
   dsimp only
   rw[app1 (by omega) rfl,D3,d,e])
 rw[h1,m]
end
theorem ua {a:Arena}(ha:er a=true):c7 ⟨a,De a.Owner.length 0⟩=true:=by
 unfold c7
 dsimp only
 rw[ha,C6,beq_self_eq_true,DE,DE,DI]
 intro x b
 rw[(List.mem_replicate.1 b).2];rfl
theorem tC {a:Arena}(ha:er a=true):1<=a.Owner.length/\a.Owner.length<=256/\(∀(i:Nat) row,a.Next[i]? =some row->1<=row.length/\row.length<=16)/\(∀b∈a.Owner,inR 2 b=true) /\
 ∀v:Int,0<=v->v<(a.Owner.length:Int)->∃ar b,idx a.Next v=some ar/\idx a.Owner v=some b/\1<=ar.length/\ar.length<=16/\Asc ar/\∀g∈ar,0<=g/\g<(a.Owner.length:Int):=by
 have hp:=ua ha
 obtain⟨h1,e,j,_,c⟩:=d7 hp
 dsimp only at h1 e j c
 refine⟨h1,e,λi row hr=>⟨(c i row hr).1,(c i row hr).2.1⟩,(sn hp).1,λv d q=>?_⟩
 obtain⟨ar,har,_⟩:=iX (xs:=a.Next) d (by omega)
 obtain⟨b,k,_⟩:=iX (xs:=a.Owner) d q
 have f:=har
 rw[cH d]at f
 obtain⟨l,m,n⟩:=c _ ar f
 obtain⟨o,p⟩:=gA.1 n
 exact⟨ar,b,har,k,l,m,p,o⟩
def ManyP (n k:Nat):Prop:=∃P:VL,256<P.length/\P.Nodup/\∀v∈P,VOk n k v
section
variable {a:Arena}{ps:VP}{st:Place}(ha:er a=true) (hk:ps.length<=4)
include ha hk
theorem zG (M:VOk a.Owner.length ps.length st):(cd (eO a ps) (2 ^ 64) ([st],0,[],[],[])=some (.inl noRec)/\cd (ci a ps) (2 ^ 64) ([st],0,[],[],[])=some (.inl noRec)/\ManyP a.Owner.length ps.length) \/
 ∃b:VL×Int×VI×VV×VI,cd (eO a ps) (2 ^ 64) ([st],0,[],[],[])=some (.inr b)/\cd (ci a ps) (2 ^ 64) ([st],0,[],[],[])=some (.inr b)/\RecG a ps st b.1 ⟨⟨b.2.2.1,b.2.2.2.1⟩,b.2.2.2.2⟩:=by
 obtain⟨_,_,_,_,D⟩:=tC ha
 obtain⟨R,i,r,s,j⟩:=o7 (f:=eO a ps) (g:=ci a ps) (λb i=>b=i/\∃c:Nat,b.2.1=(c:Int)/\RecS a ps st b.1 c b.2.2.1 b.2.2.2.1 b.2.2.2.2/\b.1.length<=256) (λb=>300-b.2.1.toNat) (λo z=>o=noRec/\z=noRec/\ManyP a.Owner.length ps.length)
  (λb i=>b=i/\RecG a ps st b.1 ⟨⟨b.2.2.1,b.2.2.2.1⟩,b.2.2.2.2⟩) (λb i ⟨m,c,k,d,hl⟩=>by
  subst m
  obtain⟨P,Z,O,N,Q⟩:=b
  dsimp only at k d hl
  subst k
  unfold eO ci
  dsimp only
  by_cases H:c<P.length
  .have l:P[c]? =some P[c]:=ct H
   generalize P[c]=v at l
   have e:=d.inn v (Db l)
   obtain⟨ar,ah,har,w,ag,y,F,G⟩:=D v.At e.a0 e.a1
   have af:=e.rl
   have t:=Bz (ps:=ps) (rc:=v.Record) e.rin (by omega) v.At
   have x:=BE (ps:=ps) (rc:=v.Record) e.rin (by omega) v.At
   have ae:=vU ps v.At e.rl e.rin
   obtain⟨S,X,Y⟩:=B4 (a:=a) (v:=v) (ar:=ar) (rc:=gF ps v.Record v.At) (P:=P) har y (by omega) hl
   have k:=Bp (ar:=ar) (rc:=gF ps v.Record v.At) (P:=P) y (by omega) (by omega)
   have u:=xp (ar:=ar) (rc:=gF ps v.Record v.At) (P:=P) (je F)
   have U:=nu (kyR ar (gF ps v.Record v.At)) P ar.length
   have hrl:=U.rl
   obtain⟨C,V,A,W,B⟩:=zX u (by omega)
   have L:cA (ez (kyR ar (gF ps v.Record v.At)) P ar.length).2=some C:=by
    unfold cA
    rw[if_pos ⟨by omega,by omega⟩]
    exact congrArg some (nM (sQ u) A λZ=>by rw[List.mem_mergeSort,B])
   have n:=d.step l har G w A (by rw[W,hrl]) B
   have aa:=d.ol
   have ab:=d.nl
   have ac:=d.ql
   have I:jx v ps=some (gF ps v.Record v.At):=by
    unfold jx
    rw[AH,t];rfl
   have K:jy v ps=some (lM ps v.Record v.At):=by
    unfold jy
    rw[AP,x];rfl
   rw[decide_eq_true (show(c:Int)<(P.length:Int) by omega),cond_true,cond_true,bT,l,D3,D3,t,D3,X,D3,I,D3,har,D3,k,D3,bU]
   match S,Y with
   |.inl o,⟨p,q⟩=>
    subst p
    rw[decide_eq_true (show(256:Int)<((ez (kyR ar (gF ps v.Record v.At)) P ar.length).1.length:Int) by omega),cond_true]
    exact⟨_,_,rfl,rfl,rfl,rfl,_,q,n.nod,n.inn⟩
   |.inr b,⟨p,q,T⟩=>
    rw[bU,p,q,V,w,D3,decide_eq_false (show ¬(256:Int)<((ez (kyR ar (gF ps v.Record v.At)) P ar.length).1.length:Int) by omega),cond_false,L,K]
    simp only[D3]
    unfold kR
    dsimp only
    rw[app1 (xs:=O) (by omega) rfl,app1 (xs:=N) (by omega) rfl,x]
    simp only[D3]
    rw[app1 (xs:=Q) (by omega) rfl,wr' (by omega) (by omega)]
    refine⟨_,_,rfl,rfl,⟨rfl,c+1,by dsimp only;omega,n,T⟩,?_⟩
    dsimp only
    omega
  .rw[decide_eq_false (show ¬(c:Int)<(P.length:Int) by omega),cond_false,cond_false]
   have ad:=d.il
   have:c=P.length:=by omega
   subst this
   exact⟨_,_,rfl,rfl,rfl,d,hl⟩) (2 ^ 64) (2 ^ 64) ([st],0,[],[],[]) ([st],0,[],[],[]) (by dsimp only;omega) (by dsimp only;omega) ⟨rfl,0,rfl,RecS.init M,by simp⟩
 match R,i,j with
 |.inl o,.inl z,j=>
  rw[j.1]at r
  rw[j.2.1]at s
  exact .inl ⟨r,s,j.2.2⟩
 |.inr b,.inr i,⟨m,E⟩=>
  subst m
  exact .inr ⟨b,r,s,E⟩
end
theorem An (k:Nat):cntM eN k 0 []=some (.inr (firstR k))\/1000<k:=by
 by_cases hk:1000<k
 .exact .inr hk
 .obtain⟨a,h1,d⟩:=ch (f:=eN) (λb a=>a=firstR b) k (s:=[]) rfl (λb a e c=>by
   subst c
   unfold eN
   rw[app1 (by unfold firstR;rw[DM,Eb];omega) rfl]
   exact⟨_,rfl,by unfold firstR;rw[Ef,C8];rfl⟩)
  exact .inl (by rw[h1,d])
theorem sU {a:Arena}{ps:VP}{st:Int}(ha:er a=true) (hp:pairsOk ps (a.Owner.length:Int)=true) (hb:∀x∈ps,x.Ask.length<=1000000000/\x.Give.length<=1000000000) (h0:0<=st) (h1:st<(a.Owner.length:Int)):
 (ia a ps st=some noRec/\eh a ps st=some noRec/\ManyP a.Owner.length ps.length)\/∃P g,RecG a ps ⟨st,firstR ps.length⟩ P g/\c7 g=true/\ia a ps st=some (g,P,true)/\eh a ps st=some (g,P,true):=by
 obtain⟨r,s,n,o,_⟩:=tC ha
 have hk:ps.length<=4:=by
  unfold pairsOk at hp
  rw[rx,decide_eq_true_eq]at hp
  omega
 have f:cntM eN ps.length 0 []=some (.inr (firstR ps.length)):=(An ps.length).resolve_right (by omega)
 have j:cntM ke ps.length 0 []=some (.inr (firstR ps.length)):=f
 have l:VOk a.Owner.length ps.length ⟨st,firstR ps.length⟩:=⟨h0,h1,by unfold firstR;rw[DM,Eb],λx i=>by
  unfold firstR at i
  obtain⟨m,k,d⟩:=Da.1 i
  have:=Ec.1 k
  have d:(m:Int)=x:=d
  omega,uh _⟩
 unfold ia eh cI
 rw[qc,ha,D3,DD,cond_false,pd (by omega) (by omega) hb,hp,D3,D3,DD,cond_false,dP,wr' (by omega) (by omega),decide_eq_true h0,decide_eq_true (show st<=(a.Owner.length:Int)-1 by omega),Bool.and_self,D3,D3,DD,cond_false,f,j,D3,D3,bU,bU]
 rcases zG ha hk l with ⟨b,c,q⟩|⟨p,b,c,e⟩
 .left
  rw[b,c]
  exact⟨rfl,rfl,q⟩
 .right
  rw[b,c]
  exact⟨p.1,_,e,e.ok ha o n hk,rfl,rfl⟩
theorem pH {a:VI}{j:Nat}(h:j<a.length):a.toArray[j]! =a[j]:=by
 rw[getElem!_pos _ j (by simpa using h)]
 simp
theorem pE {b:VI}(h:b.Pairwise (·<=·)):∀m:Nat,m<=b.length->Asc (Lib.compactUpTo b.toArray m)/\∀f,f∈Lib.compactUpTo b.toArray m↔∃a:Nat,a<m/\b[a]? =some f
 |0,_=>⟨by simp[Lib.compactUpTo,Asc],λf=>by simp[Lib.compactUpTo]⟩
 |m+1,hm=>by
  obtain⟨l,i⟩:=pE h m (by omega)
  have q:∀(e a:Nat) (o:e<b.length) (p:a<b.length),e<=a->b[e]<=b[a]:=λe a o p u=>by
   rcases Nat.lt_or_ge e a with n|n
   .exact(DW.1 h) e a o p n
   .have:e=a:=by omega
    subst this
    exact Int.le_refl _
  rw[Lib.compactUpTo_succ,pH (show m<b.length by omega)]
  have j:b[m]? =some b[m]:=ct (by omega)
  cases hk:Lib.keeps b.toArray m with
  |true=>
   rw[if_pos rfl]
   refine⟨List.pairwise_append.2 ⟨l,List.pairwise_singleton ..,λx r z t=>?_⟩,λf=>?_⟩
   .rw[CC.1 t]
    obtain⟨a,g,c⟩:=(i x).1 r
    rw[ct (show a<b.length by omega)]at c
    have r:=Ds c
    have v:b[m]≠b[m-1]'(by omega):=λd=>by
     unfold Lib.keeps at hk
     rw[decide_eq_true_eq,pH (show m<b.length by omega),pH (show m-1<b.length by omega)]at hk
     rcases hk with hk|hk
     .omega
     .exact hk d
    have w:=q a (m-1) (by omega) (by omega) (by omega)
    have y:=q (m-1) m (by omega) (by omega) (by omega)
    omega
   .rw[CA,CC,i]
    constructor
    .rintro(⟨a,g,c⟩|rfl)
     .exact⟨a,by omega,c⟩
     .exact⟨m,by omega,j⟩
    .rintro⟨a,g,c⟩
     by_cases d:a=m
     .subst d
      rw[j]at c
      exact .inr (Ds c).symm
     .exact .inl ⟨a,by omega,c⟩
  |false=>
   rw[if_neg (by simp),List.append_nil]
   refine⟨l,λf=>?_⟩
   rw[i]
   constructor
   .rintro⟨a,g,c⟩
    exact⟨a,by omega,c⟩
   .rintro⟨a,g,c⟩
    by_cases d:a=m
    .subst d
     have k:¬(a=0\/b.toArray[a]!≠b.toArray[a-1]!):=λs=>by
      unfold Lib.keeps at hk
      rw[decide_eq_true s]at hk
      cases hk
     rw[pH (show a<b.length by omega),pH (show a-1<b.length by omega)]at k
     have h0:a≠0:=λd=>k (.inl d)
     have h1:b[a]=b[a-1]'(by omega):=DF λd=>k (.inr d)
     refine⟨a-1,by omega,?_⟩
     rw[ct (show a-1<b.length by omega),← h1,← j,c]
    .exact⟨a,by omega,c⟩
theorem vy {b:VI}(h:b.Pairwise (·<=·)):Asc (Lib.compact b)/\∀c,c∈Lib.compact b↔c∈b:=by
 obtain⟨a,f⟩:=pE h b.length (CK _)
 refine⟨a,λc=>?_⟩
 unfold Lib.compact
 rw[f]
 constructor
 .rintro⟨e,_,h⟩;exact Db h
 .intro g
  obtain⟨e,d⟩:=DK g
  exact⟨e,(Cu.1 d).1,d⟩
theorem sD {p:Sig}(hs:sigOk p=true){x o:Int}(e:0<=x) (f:x<pw p.In) (a:0<=o) (d:o<pw p.Out):lU p x o=some (o * pw p.In+x):=by
 have j:=gG p.In
 have k:=gG p.Out
 obtain⟨b,c⟩:=eJ hs
 have g:0<=o * pw p.In:=Int.mul_nonneg a (by omega)
 have i:o * pw p.In<=4 * 4:=Int.mul_le_mul (by omega) (by omega) (by omega) (by omega)
 unfold lU
 simp only[ib,hs,D3,DD,cond_false,eP b,eP c]
 rw[wr' (z:=pw p.In-1) (by omega) (by omega),wr' (z:=pw p.Out-1) (by omega) (by omega),wr' (z:=o * pw p.In) (by omega) (by omega),wr' (by omega) (by omega)]
 simp only[dP,xO,D3,gE.2 ⟨e,f⟩,gE.2 ⟨a,d⟩,DD,cond_false]
theorem gi {p:Sig}(hs:sigOk p=true):dQ p=some (pw p.In):=by
 obtain⟨a,_⟩:=eJ hs
 unfold dQ
 rw[(oG a).1,D3,(oG a).2]
theorem pq:∀{xs ys:VI},xs.Nodup->(∀x∈xs,x∈ys)->xs.length<=ys.length
 | [],_,_,_=>Nat.zero_le _
 |x::xs,ys,hn,h=>by
  obtain⟨h1,d⟩:=List.nodup_cons.1 hn
  have a:=h x (DP ..)
  have:=pq (ys:=ys.erase x) d λe b=>(List.mem_erase_of_ne (λc=>h1 (by rw[← c];exact b))).2 (h e (List.mem_cons_of_mem _ b))
  have f:=Eo a
  rw[List.length_erase_of_mem a]at this
  simp only[Cy]
  omega
theorem Bf {m q b i d:Nat}(hi:i<m) (g:d<m) (h:q * m+i=b * m+d):q=b/\i=d:=by
 have e:∀{a c:Nat},a<c->a * m+m<=c * m:=λ{a c} h=>by
  have:=Nat.mul_le_mul_right m (show a+1<=c by omega)
  rwa [Nat.add_mul,Nat.one_mul]at this
 by_cases h1:q<b
 .have:=e h1;omega
 .by_cases f:b<q
  .have:=e f;omega
  .have:q=b:=by omega
   subst this
   exact⟨rfl,by omega⟩
theorem tE {n m q i:Nat}(a:q<n) (hi:i<m):q * m+i<n * m:=by
 have:=Nat.mul_le_mul_right m (show q+1<=n by omega)
 rw[Nat.add_mul,Nat.one_mul]at this
 omega
def SuccR (d:Det) (m k q i:Nat) (r:VI):Prop:=Asc r/\∀b,b∈r↔∃a:Nat,a<k/\b=tab d.Next q ((a * m+i:Nat):Int)
theorem SuccR.uniq {d:Det}{m k q i:Nat}{r b:VI}(h:SuccR d m k q i r) (a:SuccR d m k q i b):r=b:=nM h.1 a.1 λc=>by rw[h.2,a.2]
def rowQ (n m q:Nat):VI:=(Ee m).map λa=>((n+q * m+a:Nat):Int)
structure ConA (d:Det) (n m k:Nat) (A:Arena):Prop where
 ol:A.Owner=De n 1++De (n * m) 0
 nl:A.Next.length=n+n * m
 r1:∀q:Nat,q<n->A.Next[q]? =some (rowQ n m q)
 r0:∀q i:Nat,q<n->i<m->∃r,A.Next[n+(q * m+i)]? =some r/\SuccR d m k q i r
section
variable {d:Det}{n m k:Nat}(hn:n<=48) (hn1:1<=n) (hm1:1<=m) (hm:m<=4) (hk1:1<=k) (hk:k<=4) (hd:d.Next.length=n) (hD:∀row∈d.Next,RowIn (n:Int) ((m * k:Nat):Int) row)
include hn hn1 hm1 hm hk1 hk hd hD
omit hn hn1 hk1 hk in
theorem pF {q i o:Nat}(c:q<n) (hi:i<m) (a:o<k):∃row,idx d.Next (q:Int)=some row/\idx row ((o * m+i:Nat):Int)=some (tab d.Next q ((o * m+i:Nat):Int))/\0<=tab d.Next q ((o * m+i:Nat):Int)/\tab d.Next q ((o * m+i:Nat):Int)<(n:Int):=by
 have h1:=tE (n:=k) a hi
 have b:k * m=m * k:=Nat.mul_comm _ _
 exact mJ hD (by omega) (by omega) (by omega) (by omega)
theorem Be {A:Arena}(h:ConA d n m k A):er A=true:=by
 have E:n * m<=48 * 4:=Et hn hm
 have F:A.Owner.length=n+n * m:=by rw[h.ol];simp
 have D:=h.nl
 unfold er
 simp only[rx,decide_eq_true_eq,beq_iff_eq]
 refine⟨⟨⟨by omega,by omega⟩,by omega⟩,?_⟩
 rw[DI]
 rintro⟨row,b⟩ c
 have c:=List.mem_zipIdx_iff_getElem?.1 c
 dsimp only at c ⊢
 have B:=(Cu.1 c).1
 unfold vertOk
 by_cases i:b<n
 .have e:A.Owner[b]? =some 1:=by
   rw[h.ol,CZ (by simpa using i),D9,if_pos i]
  rw[h.r1 b i]at c
  cases c
  have hl:(rowQ n m b).length=m:=by unfold rowQ;rw[DM,Eb]
  have hs:dr (A.Owner.length:Int) (rowQ n m b)=true:=by
   refine gA.2 ⟨λx c=>?_,?_⟩
   .unfold rowQ at c
    obtain⟨G,g,f⟩:=Da.1 c
    have:=Ec.1 g
    have:=tE (n:=n) (m:=m) i this
    omega
   .unfold rowQ
    refine List.pairwise_map.2 (List.Pairwise.imp (λ{a o} y=>?_) List.pairwise_lt_range)
    omega
  rw[e,hs,hl]
  simp only[Bool.and_true,rx,decide_eq_true_eq]
  exact⟨⟨by decide,by omega⟩,by omega⟩
 .have p:b-n<n * m:=by omega
  have q:(b-n) / m<n:=(Nat.div_lt_iff_lt_mul (by omega)).2 p
  have g:(b-n) % m<m:=Nat.mod_lt _ (by omega)
  have f:(b-n) / m * m+(b-n) % m=b-n:=by rw[Nat.mul_comm];exact Nat.div_add_mod _ _
  obtain⟨H,r,s,l⟩:=h.r0 _ _ q g
  rw[f,show n+(b-n)=b by omega,c]at r
  cases r
  have e:A.Owner[b]? =some 0:=by
   rw[h.ol,C0 (by simp;omega),C6,D9,if_pos p]
  have u:∀x∈row,0<=x/\x<(n:Int):=λx c=>by
   obtain⟨j,e,f⟩:=(l x).1 c
   obtain⟨_,_,_,a,o⟩:=pF hm1 hm hd hD q g e
   rw[f];exact⟨a,o⟩
  have hs:dr (A.Owner.length:Int) row=true:=gA.2 ⟨λx c=>by have:=u x c;omega,s⟩
  have C:1<=row.length:=Eo ((l _).2 ⟨0,by omega,rfl⟩)
  have z:row.length<=k:=by
   -- each is one of k
   have t:=pq (ys:=(Ee k).map λj=>tab d.Next ((b-n) / m:Nat) ((j * m+(b-n) % m:Nat):Int)) (je s) λw v=>by
    obtain⟨j,e,f⟩:=(l w).1 v
    exact Da.2 ⟨j,Ec.2 e,f.symm⟩
   rwa [DM,Eb]at t
  rw[e,hs]
  simp only[Bool.and_true,rx,decide_eq_true_eq]
  exact⟨⟨by decide,by omega⟩,by omega⟩
end
theorem wm {p:Sig}(hs:sigOk p=true):kE p=some (pw p.In):=by
 unfold kE
 rw[eP (eJ hs).1];rfl
section
variable {p:Sig}{d:Det}(hs:sigOk p=true){n m k:Nat}(hn:n<=48) (hn1:1<=n) (hm:pw p.In=(m:Int)) (hk:pw p.Out=(k:Int)) (hd:d.Next.length=n) (hD:∀row∈d.Next,RowIn (n:Int) ((m * k:Nat):Int) row)
include hs hn hm hk hd hD
omit hn in
theorem A7 {q i:Nat}(z:q<n) (hi:i<m):∃t,ma p d q i=some t/\SuccR d m k q i t:=by
 have L:=gG p.In
 have K:=gG p.Out
 unfold ma
 obtain⟨b,F,G⟩:=cM (f:=iT p d q i) (λa (c:VI×Int)=>c.2=(a:Int)/\a<=k/\Asc c.1/\c.1.length<=a/\∀e,e∈c.1↔∃b:Nat,b<a/\e=tab d.Next q ((b * m+i:Nat):Int)) (λ_=>False) (λc=>SuccR d m k q i c.1) k (λa c ⟨r,I,j,w,l⟩=>by
  obtain⟨xs,b⟩:=c
  dsimp only at r j w l
  subst r
  unfold iT
  rw[eP (eJ hs).2,D3,hk]
  dsimp only
  by_cases y:a<k
  .obtain⟨row,C,D,_⟩:=pF (d:=d) (k:=k) (by omega) (by omega) hd hD z hi y
   obtain⟨R,E,u,v⟩:=ze j (tab d.Next q ((a * m+i:Nat):Int)) (by omega)
   have s:=sD hs (x:=(i:Int)) (o:=(a:Int)) (by omega) (by omega) (by omega) (by omega)
   have o:(a:Int) * (m:Int)+(i:Int)=((a * m+i:Nat):Int):=by simp
   rw[hm,o]at s
   rw[decide_eq_true (show(a:Int)<(k:Int) by omega),cond_true,C,D3,s,D3,D,D3,E,D3,wr' (by omega) (by omega)]
   have H:R.length<=xs.length+1:=pq (ys:=tab d.Next q ((a * m+i:Nat):Int)::xs) (je u) λe A=>by
    rcases(v e).1 A with h|h
    .rw[h];exact DP ..
    .exact List.mem_cons_of_mem _ h
   refine⟨_,rfl,by omega,by dsimp only;omega,by omega,u,by dsimp only;omega,λe=>?_⟩
   dsimp only
   rw[v,l]
   constructor
   .rintro(h|⟨b,B,g⟩)
    .exact⟨a,by omega,h⟩
    .exact⟨b,by omega,g⟩
   .rintro⟨b,B,g⟩
    by_cases o:b=a
    .subst o;exact .inl g
    .exact .inr ⟨b,by omega,g⟩
  .have:a=k:=by omega
   subst this
   rw[decide_eq_false (show ¬((a:Nat):Int)<(a:Int) by omega),cond_false]
   exact⟨_,rfl,j,l⟩) (2 ^ 64) 0 ([],0) (by omega) ⟨rfl,Nat.zero_le _,List.Pairwise.nil,CK _,λe=>by simp⟩ (by omega)
 match b,G with
 |.inr c,h=>rw[F];exact⟨c.1,rfl,h⟩
omit hn hs in
theorem Au {q i:Nat}(C:q<n) (hi:i<m):∃xs r,cntM (fg d (m:Int) q i) k 0 []=some (.inr xs)/\0<xs.length/\xs.length<=4/\cA xs=some (xs.mergeSort λx c=>decide (x<=c))/\dy (xs.mergeSort λx c=>decide (x<=c))=some r/\SuccR d m k q i r:=by
 have K:=gG p.In
 have I:=gG p.Out
 obtain⟨xs,h1,y,z⟩:=ch (f:=fg d (m:Int) q i) (λb (l:VI)=>l.length=b/\∀g,g∈l↔∃e:Nat,e<b/\g=tab d.Next q ((e * m+i:Nat):Int)) k (s:=[]) ⟨rfl,λg=>by simp⟩ (λb l A ⟨s,t⟩=>by
  obtain⟨row,E,F,_⟩:=pF (d:=d) (k:=k) (by omega) (by omega) hd hD C hi A
  have hb:b * m<=4 * 4:=Et (by omega) (by omega)
  have o:(b:Int) * (m:Int)=((b * m:Nat):Int):=by simp
  unfold fg
  rw[E,D3,o,wr' (z:=((b * m:Nat):Int)) (by omega) (by omega),wr' (by omega) (by omega),show((b * m:Nat):Int)+(i:Int)=((b * m+i:Nat):Int) by omega,F,D3,app1 (by omega) rfl]
  refine⟨_,rfl,by rw[Cw,s];rfl,λg=>?_⟩
  rw[CA,CC,t]
  constructor
  .rintro(⟨e,D,j⟩|h)
   .exact⟨e,by omega,j⟩
   .exact⟨b,by omega,h⟩
  .rintro⟨e,D,j⟩
   by_cases o:e=b
   .subst o;exact .inr j
   .exact .inl ⟨e,by omega,j⟩)
 have B:(xs.mergeSort λx c=>decide (x<=c)).Pairwise (·<=·):=by
  have h:=List.pairwise_mergeSort (le:=λx c:Int=>decide (x<=c)) (λa u G h1 y=>by simp only[decide_eq_true_eq]at *;omega) (λa u=>by simp only[Bool.or_eq_true,decide_eq_true_eq];omega) xs
  exact h.imp λh=>by simpa using h
 have H:(xs.mergeSort λx c=>decide (x<=c)).length=xs.length:=List.length_mergeSort ..
 obtain⟨v,w⟩:=vy B
 refine⟨xs,_,h1,by omega,by omega,?_,?_,v,λg=>?_⟩
 .unfold cA
  rw[if_pos ⟨by omega,by omega⟩]
 .unfold dy
  rw[if_pos ⟨by omega,by omega⟩]
 .rw[w,List.mem_mergeSort,z]
omit hs hk hD in
theorem yn:cntM (fo d (m:Int)) n 0 ([],[])=some (.inr (De n 1,(Ee n).map (rowQ n m)))/\cntM (fb d (m:Int)) n 0 ([],[])=some (.inr (De n 1,(Ee n).map (rowQ n m))):=by
 have r:=gG p.In
 have hr:rng (m:Int)=some ():=by unfold rng;rw[if_pos (by omega)]
 have k:∀c:Nat,c<n->cntM (fp d (m:Int) c) m 0 []=some (.inr (rowQ n m c))/\cntM (fc d (m:Int) c) m 0 []=some (.inr (rowQ n m c)):=λc q=>by
  have hb:c * m<=48 * 4:=Et (by omega) (by omega)
  have e:(c:Int) * (m:Int)=((c * m:Nat):Int):=by simp
  have o:∀a:Nat,a<m->Dr .i64 (Dr .i64 ((d.Next.length:Int)+Dr .i64 ((c:Int) * (m:Int)))+(a:Int))=((n+c * m+a:Nat):Int):=λa g=>by
   rw[e,wr' (z:=((c * m:Nat):Int)) (by omega) (by omega),wr' (z:=(d.Next.length:Int)+((c * m:Nat):Int)) (by omega) (by omega),wr' (by omega) (by omega)]
   omega
  have hl:∀a:Nat,((Ee a).map λj=>((n+c * m+j:Nat):Int)).length=a:=λa=>by rw[DM,Eb]
  constructor
  .obtain⟨b,h1,i⟩:=ch (f:=fp d (m:Int) c) (λa b=>b=(Ee a).map λj=>((n+c * m+j:Nat):Int)) m (s:=[]) rfl (λa b g e=>by
    subst e
    unfold fp
    rw[o a g,app1 (by rw[hl];omega) rfl]
    exact⟨_,rfl,by rw[Ef,C8];rfl⟩)
   rw[h1,i];rfl
  .obtain⟨b,h1,i⟩:=ch (f:=fc d (m:Int) c) (λa b=>b=(Ee a).map λj=>((n+c * m+j:Nat):Int)) m (s:=[]) rfl (λa b g e=>by
    subst e
    unfold fc
    rw[o a g,app1 (by rw[hl];omega) rfl]
    exact⟨_,rfl,by rw[Ef,C8];rfl⟩)
   rw[h1,i];rfl
 have l:Dq ((m:Int)-0)=m:=by omega
 constructor
 .obtain⟨b,h1,i⟩:=ch (f:=fo d (m:Int)) (λa b=>b=(De a 1,(Ee a).map (rowQ n m))) n (s:=([],[])) rfl (λa b g e=>by
   subst e
   unfold fo
   dsimp only
   rw[hr,D3,l,(k a g).1,D3,bU,app1 (by simp;omega) rfl,D3,app1 (by simp;omega) rfl,D3]
   exact⟨_,rfl,by rw[Es,Ef,C8];rfl⟩)
  rw[h1,i]
 .obtain⟨b,h1,i⟩:=ch (f:=fb d (m:Int)) (λa b=>b=(De a 1,(Ee a).map (rowQ n m))) n (s:=([],[])) rfl (λa b g e=>by
   subst e
   unfold fb
   dsimp only
   rw[hr,D3,l,(k a g).2,D3,bU,app1 (by simp;omega) rfl,D3,app1 (by simp;omega) rfl,D3]
   exact⟨_,rfl,by rw[Es,Ef,C8];rfl⟩)
  rw[h1,i]
def ConR (d:Det) (n m k c:Nat) (s:VI×VV):Prop:=s.1=De n 1++De c 0/\∃R,s.2=(Ee n).map (rowQ n m)++R/\R.length=c/\∀b a:Nat,b<n->a<m->b * m+a<c->∃e,R[b * m+a]? =some e/\SuccR d m k b a e
theorem wU:∃b,cntM (fq p d (m:Int)) n 0 (De n 1,(Ee n).map (rowQ n m))=some (.inr b)/\cntM (fd p d (m:Int)) n 0 (De n 1,(Ee n).map (rowQ n m))=some (.inr b)/\ConR d n m k (n * m) b:=by
 have ah:=gG p.In
 have ae:=gG p.Out
 have hr:rng (m:Int)=some ():=by unfold rng;rw[if_pos (by omega)]
 have T:rng (k:Int)=some ():=by unfold rng;rw[if_pos (by omega)]
 have Q:Dq ((m:Int)-0)=m:=by omega
 have P:Dq ((k:Int)-0)=k:=by omega
 obtain⟨W,A⟩:=oG (eJ hs).2
 rw[hk]at A
 have ad:n * m<=48 * 4:=Et hn (by omega)
 obtain⟨b,e,h1,M,N,O⟩:=ue (f:=fq p d (m:Int)) (g:=fd p d (m:Int)) (λc b e=>b=e/\ConR d n m k (c * m) b) n (s:=(De n 1,(Ee n).map (rowQ n m))) (t:=(De n 1,(Ee n).map (rowQ n m))) ⟨rfl,by rw[Nat.zero_mul];exact⟨by simp,[],by simp,rfl,λc i _ _ h=>absurd h (D1 _)⟩⟩ (λc b e r ⟨j,q⟩=>by
  subst j
  obtain⟨z,aj,F,H,K,L⟩:=ue (f:=ft p d c) (g:=ff p d (m:Int) c) (λi b e=>b=e/\ConR d n m k (c * m+i) b) m (s:=b) (t:=b) ⟨rfl,q⟩ (λi b e l ⟨j,q⟩=>by
   subst j
   obtain⟨s,R,t,o,C⟩:=q
   obtain⟨x,V,y⟩:=A7 hs hm hk hd hD r l
   obtain⟨xs,ai,X,ak,al,Y,Z,aa⟩:=Au hm hk hd hD r l
   have:=y.uniq aa
   subst this
   have ab:=tE (n:=n) r l
   have af:b.1.length=n+(c * m+i):=by rw[s];simp
   have ag:b.2.length=n+(c * m+i):=by rw[t];simp[o]
   unfold ft ff
   rw[app1 (xs:=b.1) (by omega) rfl,V,W,A,T,P,X]
   simp only[D3,bU]
   rw[Y,app1 (xs:=b.2) (by omega) rfl]
   simp only[D3]
   rw[Z,D3,app1 (xs:=b.2) (by omega) rfl,D3]
   refine⟨_,_,rfl,rfl,rfl,?_,R++[x],?_,by rw[Cw,o];rfl,λw v S u ac=>?_⟩
   .dsimp only
    rw[s,← Nat.add_assoc,Es,CS]
   .dsimp only
    rw[t,CS]
   .by_cases j:w * m+v=c * m+i
    .obtain⟨D,E⟩:=Bf u l j
     subst D E
     exact⟨x,by rw[← o];simp,y⟩
    .obtain⟨U,a,B⟩:=C w v S u (by omega)
     exact⟨U,by rw[CZ (by omega)];exact a,B⟩)
  subst K
  unfold fq fd
  rw[hr,D3,D3,Q]
  have G:cntM (ft p d c) m 0 (b.1,b.2)=some (.inr z):=F
  have I:cntM (ff p d (m:Int) c) m 0 (b.1,b.2)=some (.inr z):=H
  rw[G,I,D3,D3,bU,bU]
  exact⟨_,_,rfl,rfl,rfl,by rw[Nat.add_mul,Nat.one_mul];exact L⟩)
 subst N
 exact⟨b,h1,M,O⟩
end
theorem copyPairs {ps:VP}(hl:ps.length<=4) (hb:∀x∈ps,x.Ask.length<=1000000000/\x.Give.length<=1000000000) (X:Det) (l:X.Pairs=ps):cntM (fu X) ps.length 0 []=some (.inr ps)/\cntM (eC X) ps.length 0 []=some (.inr ps):=by
 constructor
 .obtain⟨c,h1,e⟩:=ch (f:=fu X) (λa c=>c=ps.take a) ps.length (s:=[]) rfl (λa c g d=>by
   subst d
   have b:ps[a]? =some ps[a]:=ct g
   generalize ps[a]=x at b
   obtain⟨i,j⟩:=hb x (Db b)
   have k:∀{xs:VI},xs.length<=1000000000->eI xs=some xs:=λ{xs} h=>by
    unfold eI
    rw[appL (by rw[DO];omega) rfl];rfl
   unfold fu
   rw[l,bT,b,D3,D3,k i,D3,k j,D3,app1 (by rw[C7];omega) rfl]
   exact⟨_,rfl,by rw[DX,b];rfl⟩)
  rw[h1,e,DZ]
 .obtain⟨c,h1,e⟩:=ch (f:=eC X) (λa c=>c=ps.take a) ps.length (s:=[]) rfl (λa c g d=>by
   subst d
   have b:ps[a]? =some ps[a]:=ct g
   generalize ps[a]=x at b
   obtain⟨i,j⟩:=hb x (Db b)
   unfold eC np
   rw[l,bT,b,D3,appL (by rw[DO];omega) rfl,D3,appL (by rw[DO];omega) rfl,D3,D3,app1 (by rw[C7];omega) rfl]
   exact⟨_,rfl,by rw[DX,b];rfl⟩)
  rw[h1,e,DZ]
theorem tX {p:Sig}{d:Det}(hs:sigOk p=true) (hd:detOk p d=true):∃(n m k:Nat) (A:Arena),d.Next.length=n/\pw p.In=(m:Int)/\pw p.Out=(k:Int)/\1<=n/\n<=48/\1<=m/\m<=4/\1<=k/\k<=4/\(∀row∈d.Next,RowIn (n:Int) ((m * k:Nat):Int) row)/\(∀x∈d.Pairs,x.Ask.length<=1000000000/\x.Give.length<=1000000000)/\ConA d n m k A/\gY p d=some (A,d.Pairs,true)/\fK p d=some (A,d.Pairs):=by
 obtain⟨h1,e,s,t⟩:=dC hd
 have K:=gG p.In
 have I:=gG p.Out
 obtain⟨m,hm⟩:=dw (z:=pw p.In) (by omega)
 obtain⟨k,hk⟩:=dw (z:=pw p.Out) (by omega)
 have hb:∀x∈d.Pairs,x.Ask.length<=1000000000/\x.Give.length<=1000000000:=λx u=>by
  have f:=hd
  unfold detOk at f
  simp only[rx]at f
  have hp:=f.1.2
  unfold pairsOk at hp
  rw[rx,DI]at hp
  have:=hp.2 x u
  unfold pairOk at this
  rw[rx]at this
  have G:=(St.of this.1).len
  have H:=(St.of this.2).len
  omega
 have hD:∀row∈d.Next,RowIn (d.Next.length:Int) ((m * k:Nat):Int) row:=λrow hr=>by
  have:=t row hr
  unfold ltd at this
  rw[hm,hk]at this
  simpa using this
 obtain⟨q,r⟩:=yn e hm rfl
 obtain⟨b,E,F,j,R,c,l,o⟩:=wU hs e hm hk rfl hD
 obtain⟨w,y⟩:=copyPairs s hb d rfl
 refine⟨d.Next.length,m,k,⟨b.1,b.2⟩,rfl,hm,hk,h1,e,by omega,by omega,by omega,by omega,hD,hb,⟨j,?_,λg a=>?_,λg v a i=>?_⟩,?_,?_⟩
 .show b.2.length=_
  rw[c];simp[l]
 .show b.2[g]? =_
  rw[c,CZ (by simpa using a),List.getElem?_map,List.getElem?_range a];rfl
 .obtain⟨B,C,D⟩:=o g v a i (tE a i)
  refine⟨B,?_,D⟩
  show b.2[_]? =_
  rw[c,C0 (by simp),DM,Eb,Nat.add_sub_cancel_left]
  exact C
 .unfold gY
  rw[kv hs hb,hd,D3,DD,cond_false,wm hs,D3,hm,q,D3,bU]
  dsimp only
  rw[E,D3,bU,w];rfl
 .unfold fK
  rw[gi hs,D3,hm,r,D3,bU]
  dsimp only
  rw[F,D3,bU,y];rfl
def atP (P:VL) (a:Int):Int:=match idx P a with | some v=>v.At | none=> -1
theorem eT {P:VL}{a:Int}{v:Place}(h:idx P a=some v):atP P a=v.At:=by unfold atP;rw[h]
structure Cx (d:Det) (n m k:Nat) (A:Arena) (P:VL) (g:Parity) (W:Int->Prop) (pk:VI):Prop where
 n1:1<=n
 n48:n<=48
 m1:1<=m
 m4:m<=4
 k1:1<=k
 k4:k<=4
 dl:d.Next.length=n
 cell:∀row∈d.Next,RowIn (n:Int) ((m * k:Nat):Int) row
 con:ConA d n m k A
 rg:RecG A d.Pairs ⟨0,firstR d.Pairs.length⟩ P g
 ok:c7 g=true
 sol:Solv g W pk
section
variable {d:Det}{n m k:Nat}{A:Arena}{P:VL}{g:Parity}{W:Int->Prop}{pk:VI}(h:Cx d n m k A P g W pk)
include h
theorem Cx.len:g.Prio.length=P.length/\g.Arena.Owner.length=P.length/\g.Arena.Next.length=P.length/\P.length<=256/\1<=P.length/\pk.length=P.length:=by
 have a:=h.rg.game
 have h1:=a.ol
 have b:=a.nl
 have c:=a.ql
 have d:=h.sol.len
 have e:=(Cu.1 a.zero).1
 exact⟨c,h1,b,h.rg.le,by omega,by omega⟩
theorem Cx.place {x:Int}(b:Xn P.length x):∃v,idx P x=some v/\0<=v.At/\v.At<((n+n * m:Nat):Int):=by
 obtain⟨v,d,hm⟩:=iX (xs:=P) b.1 b.2
 have c:=h.rg.game.inn v hm
 have a:=c.a1
 rw[h.con.ol,Cw,C6,C6]at a
 exact⟨v,d,c.a0,a⟩
theorem Cx.row {x:Int}{v:Place}(b:idx P x=some v):∃a ar rc,idx g.Arena.Next x=some a/\idx A.Next v.At=some ar/\RowP P ar rc a/\idx g.Arena.Owner x=idx A.Owner v.At/\a.length<=16:=by
 obtain⟨l,m⟩:=(eu b)
 obtain⟨d,j⟩:=dw l
 subst j
 rw[bT]at b
 have k:=(Cu.1 b).1
 obtain⟨e,_,a,ar,c,f,i⟩:=h.rg.game.row d v k b
 refine⟨a,ar,_,by rw[bT];exact c,f,i,by rw[bT];exact e,?_⟩
 have:=(d7 h.ok).2.2.2.2 d a c
 exact this.2.1
omit h in
theorem pJ {x a:Int}{r:VI}(hr:idx g.Arena.Next x=some r):(gI g).E x a↔a∈r:=by
 show a∈cY g.Arena x↔_
 rw[dW hr]
theorem Cx.state {x:Int}{v:Place}(f:idx P x=some v) (hs:v.At<(n:Int)):(gI g).own x=true/\∃(q:Nat) (r:VI),v.At=(q:Int)/\q<n/\idx g.Arena.Next x=some r/\(∀b∈r,Xn P.length b/\∃a:Nat,a<m/\atP P b=((n+(q * m+a):Nat):Int))/\∀a:Nat,a<m->∃b∈r,atP P b=((n+(q * m+a):Nat):Int):=by
 obtain⟨C,o,t,_⟩:=h.place (x:=x) ⟨(eu f).1,(eu f).2.1⟩
 rw[f]at o
 cases o
 obtain⟨q,k⟩:=dw t
 have d:q<n:=by omega
 obtain⟨r,ar,rc,y,p,s,z,_⟩:=h.row f
 have u:ar=rowQ n m q:=by
  rw[k,bT,h.con.r1 q d]at p
  exact(Ds p).symm
 subst u
 have w:idx g.Arena.Owner x=some 1:=by
  rw[z,k,bT,h.con.ol,CZ (by simpa using d),D9,if_pos d]
 refine⟨?_,q,r,k,d,y,λb l=>?_,λa j=>?_⟩
 .show ownL _ x=true
  unfold ownL
  rw[w];rfl
 .obtain⟨i,B,e,c⟩:=s.to b l
  have A:=(Cu.1 c).1
  unfold rowQ at e
  obtain⟨a,j,e⟩:=Da.1 e
  refine⟨⟨i,by omega⟩,a,Ec.1 j,?_⟩
  rw[eT (by rw[cH i];exact c),← e,Nat.add_assoc]
 .obtain⟨b,l,i,c⟩:=s.has ((n+q * m+a:Nat):Int) (by unfold rowQ;exact Da.2 ⟨a,Ec.2 j,rfl⟩)
  refine⟨b,l,?_⟩
  rw[eT (by rw[cH i];exact c),Nat.add_assoc]
theorem Cx.mid {c:Int}(B:Xn P.length c){q i:Nat}(r:q<n) (hi:i<m) (ha:atP P c=((n+(q * m+i):Nat):Int)):(gI g).own c=false/\∃e,idx g.Arena.Next c=some e/\(∀b∈e,Xn P.length b/\∃a:Nat,a<k/\atP P b=tab d.Next q ((a * m+i:Nat):Int))/\∀a:Nat,a<k->∃b∈e,atP P b=tab d.Next q ((a * m+i:Nat):Int):=by
 obtain⟨v,s,_,_⟩:=h.place B
 rw[eT s]at ha
 obtain⟨e,ar,rc,C,t,u,D,_⟩:=h.row s
 have z:=tE (n:=n) r hi
 obtain⟨x,E,G,w⟩:=h.con.r0 q i r hi
 have y:ar=x:=by
  rw[ha,bT,E]at t
  exact(Ds t).symm
 subst y
 have A:idx g.Arena.Owner c=some 0:=by
  rw[D,ha,bT,h.con.ol,C0 (by simp),C6,Nat.add_sub_cancel_left,D9,if_pos z]
 refine⟨?_,e,C,λb p=>?_,λa l=>?_⟩
 .show ownL _ c=false
  unfold ownL
  rw[A];rfl
 .obtain⟨j,F,o,f⟩:=u.to b p
  have hl:=(Cu.1 f).1
  obtain⟨a,l,o⟩:=(w F).1 o
  exact⟨⟨j,by omega⟩,a,l,by rw[eT (by rw[cH j];exact f),o]⟩
 .obtain⟨b,p,j,f⟩:=u.has _ ((w _).2 ⟨a,l,rfl⟩)
  exact⟨b,p,by rw[eT (by rw[cH j];exact f)]⟩
theorem Cx.cellAt {q i o:Nat}(b:q<n) (hi:i<m) (a:o<k):∃row,idx d.Next (q:Int)=some row/\idx row ((o * m+i:Nat):Int)=some (tab d.Next q ((o * m+i:Nat):Int))/\0<=tab d.Next q ((o * m+i:Nat):Int)/\tab d.Next q ((o * m+i:Nat):Int)<(n:Int):=
 pF h.m1 h.m4 h.dl h.cell b hi a
theorem Cx.mine {x:Int}(b:Xn P.length x) (j:(gI g).own x=wB W x):∃a,idx pk x=some a/\Xn P.length a/\(gI g).E x a/\wB W a=wB W x:=by
 obtain⟨k,_,_,_,_,l⟩:=h.len
 have ha:=h.sol.ans
 rw[k]at ha
 obtain⟨i,c,d,e⟩:=ha.mine x b j
 obtain⟨a,f,_⟩:=iX (xs:=pk) b.1 (by have:=b.2;omega)
 rw[qu f]at i c d e
 exact⟨a,f,d,c,e⟩
theorem Cx.yours {x a:Int}(d:Xn P.length x) (c:¬(gI g).own x=wB W x) (b:(gI g).E x a) (e:Xn P.length a):wB W a=wB W x:=by
 obtain⟨f,_⟩:=h.len
 have ha:=h.sol.ans
 rw[f]at ha
 exact ha.yours x a d c b e
end
def toP (P:VL) (r:VI) (z:Int):Option Nat:=r.findIdx? λa=>atP P a==z
theorem z7 {P:VL}{r:VI}{z:Int}(h:∃a∈r,atP P a=z):∃c a,toP P r z=some c/\r[c]? =some a/\atP P a=z:=by
 obtain⟨a,f,d⟩:=h
 cases b:toP P r z with
 |none=>
  unfold toP at b
  rw[El]at b
  have:=b a f
  simp[d]at this
 |some c=>
  unfold toP at b
  obtain⟨h1,e,_⟩:=Em.1 b
  exact⟨c,r[c],rfl,ct h1,by simpa using e⟩
def tgt (P:VL) (r:VI) (z:Int):Int:=match toP P r z with | some a=>r.getD a 0 | none=> -1
theorem z6 {P:VL}{r:VI}{z:Int}(h:∃b∈r,atP P b=z):tgt P r z∈r/\atP P (tgt P r z)=z/\∃a:Nat,toP P r z=some a/\r[a]? =some (tgt P r z):=by
 obtain⟨a,b,h1,c,e⟩:=z7 h
 have d:tgt P r z=b:=by
  unfold tgt
  rw[h1]
  show r.getD a 0=b
  rw[bR,c];rfl
 rw[d]
 exact⟨Db c,e,a,h1,c⟩
def dZ (f:Nat->Int) (F:VI):Nat->VI×VI
 |0=>(F,[])
 |j+1=>(addN (dZ f F j).1 (f j),(dZ f F j).2++[db (addN (dZ f F j).1 (f j)) (f j)])
theorem tN {F:VI}{t:Int}(h:t∈F):0<=db F t/\db F t<(F.length:Int):=by
 unfold db
 cases a:F.findIdx? (λx=>t==x) with
 |none=>
  rw[El]at a
  have:=a t h
  simp at this
 |some b=>
  obtain⟨h1,_⟩:=Em.1 a
  dsimp only
  omega
theorem vo {F:VI}{t:Int}:t∈addN F t:=by
 unfold addN
 by_cases h:t∈F
 .rw[if_pos h];exact h
 .rw[if_neg h];simp
theorem yW {F:VI}{t x:Int}(h:x∈addN F t):x∈F\/x=t:=by
 unfold addN at h
 by_cases a:t∈F
 .rw[if_pos a]at h;exact .inl h
 .rw[if_neg a]at h;simpa using h
theorem yD {F:VI}(t:Int) (hl:F.length<=1000):(bif decide (db F t<0) then Dl (appS 8 F [t]) λx=>some (x,(F.length:Int)) else some (F,db F t))=some (addN F t,db (addN F t) t):=by
 by_cases h:t∈F
 .rw[decide_eq_false (by have:=(tN h).1;omega),cond_false]
  unfold addN
  rw[if_pos h]
 .rw[tP h,decide_eq_true (by omega),cond_true,app1 (by omega) rfl]
  unfold addN
  rw[if_neg h,tO h];rfl
structure NmRow (N:Nat) (F:VI) (j:Nat) (Q:Int->Prop) (F' row:VI):Prop where
 nm:Names N F'
 pre:∀(i:Nat) v,F[i]? =some v->F'[i]? =some v
 len:F.length<=F'.length
 le:F'.length<=F.length+j
 rl:row.length=j
 rin:∀x∈row,0<=x/\x<(F'.length:Int)
 all:∀x∈F',Q x
theorem vW {N:Nat}{F:VI}{Q:Int->Prop}(e:Names N F) (g:∀x∈F,Q x){f:Nat->Int}{c:Nat}(i:∀a,a<c->0<=f a/\f a<(N:Int)/\Q (f a)):∀a,a<=c->NmRow N F a Q (dZ f F a).1 (dZ f F a).2
 |0,_=>⟨e,λ_ _ h=>h,CK _,CK _,rfl,λx b=>(by cases b),g⟩
 |a+1,hj=>by
  have d:=vW e g i a (by omega)
  obtain⟨m,n,o⟩:=i a (by omega)
  unfold dZ
  generalize dZ f F a=G at *
  obtain⟨k,l⟩:=d.nm.add m n
  have r:G.1.length<=(addN G.1 (f a)).length/\(addN G.1 (f a)).length<=G.1.length+1:=by
   unfold addN
   by_cases h:f a∈G.1
   .rw[if_pos h];omega
   .rw[if_neg h,Cw];simp
  have h1:=d.len
  have q:=d.le
  have hm:=tN (vo (F:=G.1) (t:=f a))
  refine⟨k,λj v p=>l j v (d.pre j v p),by dsimp only;omega,by dsimp only;omega,by simp[d.rl],λx b=>?_,λx b=>?_⟩
  .rcases CA.1 b with b|b
   .have:=d.rin x b
    dsimp only;omega
   .rw[CC.1 b];exact hm
  .rcases yW b with b|b
   .exact d.all x b
   .rw[b];exact o
structure Stp3 (p:Sig) (cs:VC) (d:Det) (n m k:Nat) (A:Arena) (P:VL) (g:Parity) (W:Int->Prop) (pk:VI):Prop where
 sig:sigOk p=true
 det:detOk p d=true
 im:pw p.In=(m:Int)
 ok:pw p.Out=(k:Int)
 cx:Cx d n m k A P g W pk
 sC:gY p d=some (A,d.Pairs,true)
 iC:fK p d=some (A,d.Pairs)
 sR:ia A d.Pairs 0=some (g,P,true)
 iR:eh A d.Pairs 0=some (g,P,true)
 sS:sH g=some ⟨wonL g.Prio.length W,pk⟩
 iS:mL g=some ⟨wonL g.Prio.length W,pk⟩
 sW:jQ g=some (wonL g.Prio.length W)
 iW:fl g=some (wonL g.Prio.length W)
 won:idx (wonL g.Prio.length W) 0=some (b2i (wB W 0))
structure Stp2 (p:Sig) (cs:VC) (d:Det) (A:Arena):Prop where
 cl:dB p cs=true
 prd:∃N:Nat,ltd p=N/\PR N cs d
 sig:sigOk p=true
 det:detOk p d=true
 pb:∀x∈d.Pairs,x.Ask.length<=1000000000/\x.Give.length<=1000000000
 aok:er A=true
 pok:pairsOk d.Pairs (A.Owner.length:Int)=true
 a1:1<=A.Owner.length/\A.Owner.length<=256
 al:∃m:Nat,pw p.In=m/\A.Owner.length=d.Next.length+d.Next.length * m
 sC:gY p d=some (A,d.Pairs,true)
 iC:fK p d=some (A,d.Pairs)
theorem setup (p:Sig){a:VC}(hb:∀B∈a,Clause.bd B):(cO p a=some (zeroD,false)/\dh p a=some (zeroD,false)/\(sigOk p=true->dB p a=true->2<a.length))\/∃d A,cO p a=some (d,true)/\dh p a=some (d,true)/\Stp2 p a d A /\
 ((ia A d.Pairs 0=some noRec/\eh A d.Pairs 0=some noRec/\ManyP A.Owner.length d.Pairs.length)\/∃n m k P g W pk,Stp3 p a d n m k A P g W pk):=by
 rcases pA p hb with ⟨h1,b,C⟩|⟨hs,G,N,d,E,_,F,hd,_,h1,b⟩
 .exact .inl ⟨h1,b,C⟩
 .right
  obtain⟨n,m,k,A,j,z,K,y,i,w,f,u,v,hD,hpb,c,t,q⟩:=tX hs hd
  have l:=Be i y w f u v j hD c
  have H:A.Owner.length=n+n * m:=by rw[c.ol];simp
  have U:n * m<=48 * 4:=Et i f
  have s:pairsOk d.Pairs (A.Owner.length:Int)=true:=by
   have e:=hd
   unfold detOk at e
   simp only[rx]at e
   have hp:=e.1.2
   unfold pairsOk at hp ⊢
   rw[rx,DI]at hp ⊢
   refine⟨hp.1,λx I=>?_⟩
   have:=hp.2 x I
   unfold pairOk at this ⊢
   rw[rx]at this ⊢
   exact⟨(St.of this.1).ok (by omega),(St.of this.2).ok (by omega)⟩
  refine⟨d,A,h1,b,⟨G,⟨N,E,F⟩,hs,hd,hpb,l,s,⟨by omega,by omega⟩,⟨m,z,by rw[H,j]⟩,t,q⟩,?_⟩
  rcases sU l s hpb (Int.le_refl 0) (by omega) with hr|⟨P,g,D,r,L,M⟩
  .exact .inl hr
  .right
   obtain⟨W,pk,O,Q,R,S,T⟩:=vl r
   have o:Cx d n m k A P g W pk:=⟨y,i,w,f,u,v,j,hD,c,D,r,T⟩
   obtain⟨V,_,_,_,X,_⟩:=o.len
   exact⟨n,m,k,P,g,W,pk,hs,hd,z,K,o,t,q,L,M,O,Q,R,S,mi ⟨Int.le_refl _,by omega⟩⟩
section
variable {xs:VP}{n:Int}(h0:0<=n) (h1:n<=256) (hb:∀x∈xs,x.Ask.length<=1000000000/\x.Give.length<=1000000000)
include h0 h1 hb
omit h0 h1 in
theorem nT:jU xs n=some (pairsOk xs n):=by
 unfold jU pairsOk
 rw[dS (f:=iH xs n) (r:=false) (pairOk n) (xs:=xs) rfl (λd x a=>by
  obtain⟨b,c⟩:=hb x (Db a)
  unfold iH pairOk
  rw[bT,a]
  simp only[D3,lE b,lE c]
  cases dr n x.Ask <;> cases dr n x.Give <;> rfl)]
 cases xs.all (pairOk n) <;> simp[aft]
end
section
variable {p:Sig}{d:Det}(hs:sigOk p=true) (hb:∀x∈d.Pairs,x.Ask.length<=1000000000/\x.Give.length<=1000000000)
include hs hb
theorem qI:oF p d=some (detOk p d):=by
 unfold oF detOk
 simp only[qo,orE,D3]
 rw[← Bool.not_and]
 cases h1:(decide (1<=(d.Next.length:Int))&&decide ((d.Next.length:Int)<=48)) with
 |false=>rfl
 |true=>
  simp only[rx,decide_eq_true_eq]at h1
  rw[dS (f:=lB p d) (r:=false) (detRow p d.Next.length) (xs:=d.Next) rfl (λb row a=>by
   unfold lB detRow
   rw[bT,a]
   simp only[D3,qT hs,nJ,bne]
   cases((row.length:Int)==ltd p) <;> cases row.all (inR d.Next.length) <;> rfl),nT hb]
  simp only[DD,cond_false,D3,DE]
  cases d.Next.all (detRow p d.Next.length) <;> cases pairsOk d.Pairs d.Next.length <;> rfl
end
def outsL (d:Det) (m k q i:Nat) (z:Int):VI:=((Ee k).filter λa=>tab d.Next q ((a * m+i:Nat):Int)==z).map Int.ofNat
def outF (d:Det) (m k q i:Nat) (z:Int):Int:=(outsL d m k q i z).getD 0 0
theorem yF (d:Det) (m k q i:Nat) (z:Int):(outsL d m k q i z).length<=k:=by
 unfold outsL
 rw[DM]
 exact D0 (DL ..) (by rw[Eb];exact CK _)
theorem xh (d:Det) (m j q i:Nat) (z:Int):outsL d m (j+1) q i z=outsL d m j q i z++(if(tab d.Next q ((j * m+i:Nat):Int)==z)=true then[(j:Int)] else[]):=by
 unfold outsL
 rw[Ef,List.filter_append,C8]
 congr 1
 rw[List.filter_cons,List.filter_nil]
 cases tab d.Next q ((j * m+i:Nat):Int)==z <;> rfl
theorem AO {d:Det}{m k q i o:Nat}{z:Int}(e:o<k) (h:z=tab d.Next q ((o * m+i:Nat):Int)):idx (outsL d m k q i z) 0=some (outF d m k q i z)/\0<=outF d m k q i z/\outF d m k q i z<(k:Int):=by
 have hm:(o:Int)∈outsL d m k q i z:=Da.2 ⟨o,DQ.2 ⟨Ec.2 e,by simp[h]⟩,rfl⟩
 have hl:=Eo hm
 have b:(outsL d m k q i z)[0]? =some ((outsL d m k q i z)[0]'hl):=ct hl
 have c:outF d m k q i z=(outsL d m k q i z)[0]'hl:=by
  unfold outF
  rw[bR,b];rfl
 rw[c]
 refine⟨by rw[show(0:Int)=((0:Nat):Int) from rfl,bT];exact b,?_⟩
 have:=En hl
 generalize(outsL d m k q i z)[0]'hl=y at this
 unfold outsL at this
 obtain⟨f,h1,a⟩:=Da.1 this
 have:=Ec.1 (DQ.1 h1).1
 have a:(f:Int)=y:=a
 omega
theorem oK (f:Nat->Int) (F:VI):∀b,F.length<=(dZ f F b).1.length/\(dZ f F b).1.length<=F.length+b/\(dZ f F b).2.length=b
 |0=>⟨CK _,CK _,rfl⟩
 |b+1=>by
  obtain⟨a,d,c⟩:=oK f F b
  have h:(dZ f F b).1.length<=(addN (dZ f F b).1 (f b)).length/\(addN (dZ f F b).1 (f b)).length<=(dZ f F b).1.length+1:=by
   unfold addN
   split
   .omega
   .rw[Cw];simp
  refine⟨?_,?_,?_⟩
  .show _<=(addN _ _).length;omega
  .show(addN _ _).length<=_;omega
  .show((dZ f F b).2++[_]).length=_;rw[Cw,c];rfl
def fM (pk:VI) (P:VL) (r:VI) (n m q:Nat) (i:Nat):Int:=pkL pk (tgt P r ((n+(q * m+i):Nat):Int))
def oM (d:Det) (pk:VI) (P:VL) (r:VI) (n m k q:Nat) (i:Nat):Int:=outF d m k q i (atP P (fM pk P r n m q i))
theorem mT (f:Nat->Int) (F:VI){i:Nat}{v:Int}(b:F[i]? =some v):∀a,(dZ f F a).1[i]? =some v
 |0=>b
 |a+1=>by
  have h:=mT f F b a
  show(addN _ _)[i]? =_
  unfold addN
  split
  .exact h
  .rw[CZ (Cu.1 h).1];exact h
structure Mkr (N m k:Nat) (Q:Int->Prop) (F:VI) (i:Nat) (Nx Ou:VV):Prop where
 nm:Names N F
 all:∀x∈F,Q x
 zero:F[0]? =some 0
 nxl:Nx.length=i
 oul:Ou.length=i
 nxr:∀row∈Nx,row.length=m/\∀x∈row,0<=x/\x<(F.length:Int)
 our:∀row∈Ou,row.length=m/\∀x∈row,0<=x/\x<(k:Int)
def itM (d:Det) (n m k:Nat) (P:VL) (g:Parity) (pk:VI):Nat->VI×VV×VV
 |0=>([0],[],[])
 |j+1=>
  ((dZ (fM pk P (cY g.Arena ((itM d n m k P g pk j).1.getD j 0)) n m (atP P ((itM d n m k P g pk j).1.getD j 0)).toNat) (itM d n m k P g pk j).1 m).1,
   (itM d n m k P g pk j).2.1++[(dZ (fM pk P (cY g.Arena ((itM d n m k P g pk j).1.getD j 0)) n m (atP P ((itM d n m k P g pk j).1.getD j 0)).toNat) (itM d n m k P g pk j).1 m).2],
   (itM d n m k P g pk j).2.2++[(Ee m).map (oM d pk P (cY g.Arena ((itM d n m k P g pk j).1.getD j 0)) n m k (atP P ((itM d n m k P g pk j).1.getD j 0)).toNat)])
section
variable {d:Det}{n m k:Nat}{A:Arena}{P:VL}{g:Parity}{W:Int->Prop}{pk:VI}(h:Cx d n m k A P g W pk)
include h
theorem tF {x:Int}{v:Place}(i:idx P x=some v) (ha:v.At<(n:Int)) (s:wB W x=false):∃(q:Nat) (r:VI),v.At=(q:Int)/\q<n/\idx g.Arena.Next x=some r/\r.length<=16/\(∀b∈r,Xn P.length b)/\∀a:Nat,a<m ->
 ∃j b c,toP P r ((n+(q * m+a):Nat):Int)=some j/\r[j]? =some b/\tgt P r ((n+(q * m+a):Nat):Int)=b/\(∃H∈r,atP P H=((n+(q * m+a):Nat):Int))/\idx pk b=some (fM pk P r n m q a)/\idx P (fM pk P r n m q a)=some c/\c.At=atP P (fM pk P r n m q a) /\
  (0<=fM pk P r n m q a/\fM pk P r n m q a<(P.length:Int)/\(wB W (fM pk P r n m q a)=false/\atP P (fM pk P r n m q a)<(n:Int)))/\idx (outsL d m k q a c.At) 0=some (oM d pk P r n m k q a)/\0<=oM d pk P r n m k q a/\oM d pk P r n m k q a<(k:Int):=by
 have S:Xn P.length x:=⟨(eu i).1,(eu i).2.1⟩
 obtain⟨M,q,r,R,l,o,A,w⟩:=h.state i ha
 obtain⟨Z,_,_,z,_,_,_,hl⟩:=h.row i
 rw[o]at z
 cases z
 refine⟨q,r,R,l,o,hl,λb t=>(A b t).1,λa f=>?_⟩
 obtain⟨G,U,j,V,X⟩:=z6 (w a f)
 generalize t:tgt P r ((n+(q * m+a):Nat):Int)=b at *
 have u:=(A b G).1
 have F:wB W b=wB W x:=h.yours S (by rw[M,s];simp) ((pJ o).2 G) u
 obtain⟨T,aa,N,L,_⟩:=h.mid u l f U
 obtain⟨to,C,p,O,Q⟩:=h.mine u (by rw[T,F,s])
 have e:fM pk P r n m q a=to:=by
  unfold fM
  rw[t,qu C]
 obtain⟨_,Y,y,B⟩:=L to ((pJ N).1 O)
 obtain⟨c,D,_,_⟩:=h.place p
 have E:c.At=atP P to:=(eT D).symm
 obtain⟨_,_,_,_,I⟩:=h.cellAt l f y
 have K:=AO (d:=d) (m:=m) (k:=k) (q:=q) (i:=a) (z:=atP P to) y B
 refine⟨j,b,c,V,X,rfl,w a f,by rw[e];exact C,by rw[e];exact D,by rw[e];exact E,by rw[e];exact⟨p.1,p.2,by rw[Q,F,s],by rw[B];exact I⟩,?_⟩
 unfold oM
 rw[e,E]
 exact K
end
theorem zg (d:Det) (n m k:Nat) (P:VL) (g:Parity) (pk:VI):∀{i j:Nat},i<=j->(itM d n m k P g pk i).1.length<=(itM d n m k P g pk j).1.length:=by
 intro i j a
 induction a with
 |refl=>exact CK _
 |step _ b=>exact D0 b (oK _ _ _).1
section
variable {d:Det}{n m k:Nat}{A:Arena}{P:VL}{g:Parity}{W:Int->Prop}{pk:VI}(h:Cx d n m k A P g W pk)
include h
variable (h0:wB W 0=false)
include h0
theorem iA:∀a:Nat,(∀i,i<a->i<(itM d n m k P g pk i).1.length)->Mkr P.length m k (λx=>wB W x=false/\atP P x<(n:Int)) (itM d n m k P g pk a).1 a (itM d n m k P g pk a).2.1 (itM d n m k P g pk a).2.2
 |0,_=>by
  obtain⟨_,_,_,_,O,_⟩:=h.len
  have G:=h.rg.game.zero
  have H:atP P 0<(n:Int):=by
   rw[eT (v:=⟨0,firstR d.Pairs.length⟩) (by rw[show(0:Int)=((0:Nat):Int) from rfl,bT];exact G)]
   have:=h.n1
   show(0:Int)<_
   omega
  refine⟨⟨by show[(0:Int)].Nodup;simp,λx b=>?_⟩,λx b=>?_,rfl,rfl,rfl,λx b=>(by cases b),λx b=>(by cases b)⟩
  .rw[CC.1 b];omega
  .rw[CC.1 b];exact⟨h0,H⟩
 |a+1,hj=>by
  have e:=iA a λi o=>hj i (by omega)
  have r:=hj a (by omega)
  unfold itM
  generalize itM d n m k P g pk a=s at *
  obtain⟨F,Nx,Ou⟩:=s
  dsimp only at e r ⊢
  have b:F[a]? =some F[a]:=ct r
  have C:F.getD a 0=F[a]:=by rw[bR,b];rfl
  rw[C]
  generalize F[a]=x at b
  have w:=Db b
  obtain⟨D,u⟩:=e.all x w
  obtain⟨v,t,_,_⟩:=h.place (x:=x) (e.nm.2 x w)
  rw[eT t]at u ⊢
  obtain⟨y,I,M,S,hr,hrl,R,q⟩:=tF h t u D
  rw[dW hr,show v.At.toNat=y by omega]
  have l:=vW (N:=P.length) (F:=F) (Q:=λx=>wB W x=false/\atP P x<(n:Int)) e.nm e.all (f:=fM pk P I n m y) (c:=m) (λi o=>by
   obtain⟨_,_,_,_,_,_,_,_,_,_,L,_⟩:=q i o
   exact L) m (CK _)
  have hl:=l.len
  refine⟨l.nm,l.all,l.pre 0 _ e.zero,by rw[Cw,e.nxl];rfl,by rw[Cw,e.oul];rfl,λrow p=>?_,λrow p=>?_⟩
  .rcases CA.1 p with j|j
   .obtain⟨z,A⟩:=e.nxr row j
    exact⟨z,λx b=>by have:=A x b;omega⟩
   .rw[CC.1 j]
    exact⟨l.rl,l.rin⟩
  .rcases CA.1 p with j|j
   .exact e.our row j
   .rw[CC.1 j]
    refine⟨by rw[DM,Eb],λT E=>?_⟩
    obtain⟨i,o,B⟩:=Da.1 E
    obtain⟨_,_,_,_,_,_,_,_,_,_,_,_,K⟩:=q i (Ec.1 o)
    rw[← B];exact K
end
section
variable {p:Sig}(hs:sigOk p=true){d:Det}(hd:detOk p d=true) (hpb:∀x∈d.Pairs,x.Ask.length<=1000000000/\x.Give.length<=1000000000){n m k:Nat}{A:Arena}{P:VL}{g:Parity}{W:Int->Prop}{pk wn:VI}(h:Cx d n m k A P g W pk) (hm:pw p.In=(m:Int)) (hk:pw p.Out=(k:Int))
include hs hd hpb h hm hk
theorem Bl {q i:Nat}(t:q<n) (hi:i<m) (z:Int):kj p d q i z=some (outsL d m k q i z):=by
 have B:=h.n48
 have A:=h.m4
 have y:=h.k4
 have j:dQ p=some (m:Int):=by rw[gi hs,hm]
 obtain⟨x,l⟩:=oG (eJ hs).2
 rw[hk]at l
 have u:rng (k:Int)=some ():=by unfold rng;rw[if_pos (by omega)]
 have s:Dq ((k:Int)-0)=k:=by omega
 unfold kj
 rw[lG,hs,D3,DD,cond_false,qI hs hpb,hd,D3,D3,DD,cond_false,decide_eq_false (show ¬(q:Int)<0 by omega),D3,cond_false,h.dl,decide_eq_false (show ¬(n:Int)<=(q:Int) by omega),D3,cond_false,decide_eq_false (show ¬(i:Int)<0 by omega),D3,cond_false,j,D3,decide_eq_false (show ¬(m:Int)<=(i:Int) by omega),D3,cond_false,x,D3,l,u,D3,s]
 obtain⟨c,h1,o⟩:=ch (f:=gM p d q i z) (λa c=>c=outsL d m a q i z) k (s:=[]) rfl (λa c r e=>by
  subst e
  have hl:=yF d m a q i z
  obtain⟨row,v,w,_⟩:=h.cellAt t hi r
  have hb:a * m<=4 * 4:=Et (by omega) (by omega)
  have e:(a:Int) * (m:Int)=((a * m:Nat):Int):=by simp
  have b:=xh d m a q i z
  unfold gM
  rw[v,D3,j,D3,e,wr' (z:=((a * m:Nat):Int)) (by omega) (by omega),wr' (by omega) (by omega),show((a * m:Nat):Int)+(i:Int)=((a * m+i:Nat):Int) by omega,w,D3]
  cases g:tab d.Next q ((a * m+i:Nat):Int)==z with
  |true=>
   rw[g,if_pos rfl]at b
   rw[cond_true,app1 (by omega) rfl,D3,D3]
   exact⟨_,rfl,b.symm⟩
  |false=>
   rw[g,if_neg (by simp),List.append_nil]at b
   rw[cond_false,D3]
   exact⟨_,rfl,b.symm⟩)
 rw[h1,o];rfl
omit hd hpb hk in
theorem Cn {r:VI}(b:∀a∈r,Xn P.length a){q i:Nat}(l:q<n) (hi:i<m){j:Nat}(c:toP P r ((n+(q * m+i):Nat):Int)=some j):cw r P (n:Int) (q:Int) p (i:Int)=some (j:Int):=by
 have k:=h.n48
 have g:=h.m4
 have o:=tE (n:=n) l hi
 have s:n * m<=48 * 4:=Et k g
 have f:(q:Int) * (m:Int)=((q * m:Nat):Int):=by simp
 rw[fU (λa=>atP P a==((n+(q * m+i):Nat):Int)) (λa e=>by
  obtain⟨v,d,_⟩:=iX (xs:=P) (b a e).1 (b a e).2
  unfold iD
  rw[d,D3,gi hs,hm,D3,eT d,f,wr' (z:=((q * m:Nat):Int)) (by omega) (by omega),wr' (z:=(n:Int)+((q * m:Nat):Int)) (by omega) (by omega),wr' (by omega) (by omega),show(n:Int)+((q * m:Nat):Int)+(i:Int)=((n+(q * m+i):Nat):Int) by omega])]
 unfold toP at c
 rw[c]
end
def stM (d:Det) (n m k:Nat) (P:VL) (g:Parity) (pk:VI) (j:Nat):VI×Int×VV×VV:=((itM d n m k P g pk j).1,(j:Int),(itM d n m k P g pk j).2.1,(itM d n m k P g pk j).2.2)
section
variable {d:Det}{n m k:Nat}{A:Arena}{P:VL}{g:Parity}{W:Int->Prop}{pk:VI}(h:Cx d n m k A P g W pk) (h0:wB W 0=false)
include h h0
theorem Az {j:Nat}(u:∀e,e<j->e<(itM d n m k P g pk e).1.length) (i:j<(itM d n m k P g pk j).1.length):∃x v q a,(itM d n m k P g pk j).1[j]? =some x/\idx P x=some v/\v.At=((q:Nat):Int)/\q<n/\wB W x=false/\idx g.Arena.Next x=some a/\(itM d n m k P g pk j).1.length<=256 /\
 stM d n m k P g pk (j+1)=((dZ (fM pk P a n m q) (itM d n m k P g pk j).1 m).1,((j+1:Nat):Int),(itM d n m k P g pk j).2.1++[(dZ (fM pk P a n m q) (itM d n m k P g pk j).1 m).2],(itM d n m k P g pk j).2.2++[(Ee m).map (oM d pk P a n m k q)]):=by
 obtain⟨_,_,_,z,_,_⟩:=h.len
 have b:=iA h h0 j u
 have y:=b.nm.len
 have l:(itM d n m k P g pk j).1[j]? =some ((itM d n m k P g pk j).1[j]):=ct i
 have t:(itM d n m k P g pk j).1.getD j 0=(itM d n m k P g pk j).1[j]:=by rw[bR,l];rfl
 have p:=En i
 obtain⟨r,o⟩:=b.all _ p
 obtain⟨v,c,_,_⟩:=h.place (b.nm.2 _ p)
 have f:=eT c
 rw[f]at o
 obtain⟨q,a,s,w,hr,_⟩:=tF h c o r
 refine⟨_,v,q,a,l,c,s,w,r,hr,by omega,?_⟩
 unfold stM
 rw[show itM d n m k P g pk (j+1)=((dZ (fM pk P (cY g.Arena ((itM d n m k P g pk j).1.getD j 0)) n m (atP P ((itM d n m k P g pk j).1.getD j 0)).toNat) (itM d n m k P g pk j).1 m).1,(itM d n m k P g pk j).2.1++[(dZ (fM pk P (cY g.Arena ((itM d n m k P g pk j).1.getD j 0)) n m (atP P ((itM d n m k P g pk j).1.getD j 0)).toNat) (itM d n m k P g pk j).1 m).2],(itM d n m k P g pk j).2.2++[(Ee m).map (oM d pk P (cY g.Arena ((itM d n m k P g pk j).1.getD j 0)) n m k (atP P ((itM d n m k P g pk j).1.getD j 0)).toNat)]) from rfl]
 rw[t,dW hr,f,show v.At.toNat=q by omega]
theorem Bt {v:Type}{f:VI×Int×VV×VV->Option (v⊕((VI×Int×VV×VV)⊕(VI×Int×VV×VV)))}(o:∀b,(∀c,c<b->c<(itM d n m k P g pk c).1.length)->f (stM d n m k P g pk b)=some (if b<(itM d n m k P g pk b).1.length then .inr (.inr (stM d n m k P g pk (b+1))) else .inr (.inl (stM d n m k P g pk b)))):
 ∃b:Nat,(∀c,c<b->c<(itM d n m k P g pk c).1.length)/\b=(itM d n m k P g pk b).1.length/\cd f (2 ^ 64) ([0],0,[],[])=some (.inr (stM d n m k P g pk b)):=by
 obtain⟨_,_,_,y,_,_⟩:=h.len
 obtain⟨s,t,u⟩:=cM (f:=f) (λb j=>j=stM d n m k P g pk b/\∀c,c<b->c<(itM d n m k P g pk c).1.length) (λ_=>False)
  (λj=>∃b:Nat,j=stM d n m k P g pk b/\(∀c,c<b->c<(itM d n m k P g pk c).1.length)/\b=(itM d n m k P g pk b).1.length) 256 (λb j ⟨i,e⟩=>by
  subst i
  have x:=(iA h h0 b e).nm.len
  by_cases l:b<(itM d n m k P g pk b).1.length
  .rw[o b e,if_pos l]
   refine⟨_,rfl,by omega,rfl,λc p=>?_⟩
   by_cases i:c=b
   .subst i;exact l
   .exact e c (by omega)
  .rw[o b e,if_neg l]
   refine⟨_,rfl,b,rfl,e,?_⟩
   cases b with
   |zero=>exact absurd (by show 0 < [(0:Int)].length;simp) l
   |succ b=>
    have a:=e b (by omega)
    have w:=zg d n m k P g pk (show b<=b+1 by omega)
    omega) (2 ^ 64) 0 ([0],0,[],[]) (by omega) ⟨rfl,λc p=>absurd p (D1 c)⟩ (by omega)
 match s,u with
 |.inr j,⟨b,i,q,r⟩=>exact⟨b,q,r,by rw[t,i]⟩
end
section
variable {p:Sig}(hs:sigOk p=true){d:Det}(hd:detOk p d=true) (hpb:∀x∈d.Pairs,x.Ask.length<=1000000000/\x.Give.length<=1000000000){n m k:Nat}{A:Arena}{P:VL}{g:Parity}{W:Int->Prop}{pk wn:VI}(h:Cx d n m k A P g W pk) (hm:pw p.In=(m:Int)) (hk:pw p.Out=(k:Int)) (h0:wB W 0=false)
include h hs hd hpb hm hk h0
theorem Bj:∃a:Nat,(∀e,e<a->e<(itM d n m k P g pk e).1.length)/\a=(itM d n m k P g pk a).1.length/\cd (gL p (d,true) (g,P,true) ⟨wn,pk⟩) (2 ^ 64) ([0],0,[],[])=some (.inr (stM d n m k P g pk a)):=by
 have hm1:=h.m1
 have X:=h.m4
 have G:rng (m:Int)=some ():=by unfold rng;rw[if_pos (by omega)]
 have C:Dq ((m:Int)-0)=m:=by omega
 refine Bt h h0 λa s=>?_
 have j:=iA h h0 a s
 have R:=j.nxl
 have U:=j.oul
 have V:=j.nm.len
 have W:=h.len.2.2.2.1
 unfold gL stM
 dsimp only
 by_cases o:a<(itM d n m k P g pk a).1.length
 .obtain⟨x,v,b,c,w,u,E,t,I,hr,hl,r⟩:=Az h h0 s o
  obtain⟨K,ac,T,_,q,_,A,B⟩:=tF h u (by omega) I
  have:b=K:=by omega
  subst this
  rw[hr]at q
  cases q
  have D:∀a:Nat,((Ee a).map (oM d pk P c n m k b)).length=a:=λa=>by rw[DM,Eb]
  rw[if_pos o]
  unfold stM at r
  rw[r]
  generalize itM d n m k P g pk a=S at *
  obtain⟨F,Nx,Ou⟩:=S
  dsimp only at *
  have H:cntM (eU p (d,true) (g,P,true) ⟨wn,pk⟩ (F,(a:Int),Nx,Ou) v) m 0 (F,[],[])=some (.inr ((dZ (fM pk P c n m b) F m).1,(dZ (fM pk P c n m b) F m).2,(Ee m).map (oM d pk P c n m k b))):=by
   obtain⟨i,h1,z⟩:=ch (f:=eU p (d,true) (g,P,true) ⟨wn,pk⟩ (F,(a:Int),Nx,Ou) v) (λa i=>i=((dZ (fM pk P c n m b) F a).1,(dZ (fM pk P c n m b) F a).2,(Ee a).map (oM d pk P c n m k b))) m (s:=(F,[],[])) rfl (λe i l y=>by
    subst y
    obtain⟨Z,aa,ab⟩:=oK (fM pk P c n m b) F e
    obtain⟨Y,ai,ah,L,M,ad,ae,N,O,af,ag,Q,_⟩:=B e l
    unfold eU
    dsimp only
    rw[bT,mT _ _ w,D3,hr,D3,h.dl,E,Cn hs h hm A t l L,D3,D3,hr,D3,bT,M,D3,N,D3,qJ,D3,yD _ (by omega),D3]
    dsimp only
    rw[app1 (by omega) rfl,D3,O,D3,Bl hs hd hpb h hm hk t l,D3,Q,D3,app1 (by rw[D];omega) rfl,D3]
    exact⟨_,rfl,by rw[Ef,C8];rfl⟩)
   rw[h1,z]
  rw[decide_eq_true (show(a:Int)<(F.length:Int) by omega),cond_true,bT,w,D3,u,D3,gi hs,hm,D3,G,D3,C,H,D3,bU]
  dsimp only
  rw[app1 (by omega) rfl,D3,app1 (by omega) rfl,D3,wr' (by omega) (by omega)]
  rfl
 .rw[decide_eq_false (by omega),cond_false,if_neg o]
end
end Go.Proofs.YtleekpaohfpooaaGreat
