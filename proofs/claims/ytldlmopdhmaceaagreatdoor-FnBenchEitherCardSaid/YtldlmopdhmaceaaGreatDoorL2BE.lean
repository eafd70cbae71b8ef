/- Picks that win: both sides find the same. -/
import Derived.Test.YtldlmopdhmaceaaGreatDoorL1BE
import Derived.Test.YtldlmopdhmaceaaGreatDoorL0BE
set_option linter.unusedVariables false
set_option linter.unusedSimpArgs false
open Bool renaming and_eq_true → ra, eq_iff_iff → F6, not_false → GB, not_true → F7, true_and → F8
open Classical renaming byContradiction → F9
open Int renaming toNat → FV, toNat_natCast → Gb
open Go.IntKind renaming wrap → FW
open List renaming all_eq_true → Gc, append_assoc → Fo, findIdx?_eq_none_iff → GW, findIdx?_eq_some_iff_getElem → GX, getD_eq_getElem?_getD → bR, getElem?_append_left → Fw, getElem?_append_right → Fx, getElem?_eq_getElem → ct, getElem?_eq_some_iff → C7, getElem?_of_mem → Gf, getElem?_replicate → GH, getElem_mem → GY, length_append → C9, length_cons → E1, length_filter_le → GJ, length_map → Gg, length_nil → Gh, length_pos_of_mem → GZ, length_range → GK, length_replicate → FD, length_take → FE, map_append → FF, mem_append → E4, mem_cons_self → Gi, mem_filter → Gj, mem_map → FH, mem_of_getElem? → FI, mem_range → GM, mem_singleton → E7, nil_append → G0, nodup_append → Gq, pairwise_iff_getElem → Gu, range → GO, range_succ → GP, replicate → FK, replicate_succ' → G1, take_add_one → Gv, take_length → Gx
open Nat renaming le_refl → Fg, le_trans → GQ, mul_le_mul → G2, not_lt_zero → Gy
open Option renaming bind → FR, bind_some → GA
open Option.some renaming inj → GS
open Go.Proofs.YtldlmopdhmaceaaGreatDoor.Par renaming Dom → G3, NoDead → GU, Rg → G4, pickG → G5, updF → G6
namespace Go.Proofs.YtldlmopdhmaceaaGreatDoor
open Go Go.Wk Go.Proofs
section
open Classical
theorem yw {n:Nat}{W:Int->Prop}(hn:n<=256) (q:Bool):∃B,jB (wonL n W) (b2i q)=some B/\B.length=n/\In B=G4 (Xn n) (wB W) q:=by
 have hl:=rf n W
 unfold jB
 rw[hl,dq (by omega) rfl,GA]
 obtain⟨c,h1,d,e⟩:=fillB (f:=mC (wonL n W) (b2i q)) (G4 (Xn n) (wB W) q) n (s0:=FK n false) (by simp) (λa c i hs=>by
  have b:Xn n (a:Int):=⟨by omega,by omega⟩
  unfold mC
  rw[lF b,GA,oV]
  have:(wB W (a:Int)==q)=decide (G4 (Xn n) (wB W) q (a:Int)):=by
   rw[F6,decide_eq_true_iff]
   unfold G4
   simp[b]
  rw[this]) (λv g=>g.1)
 rw[h1,GA,bV]
 exact⟨c,rfl,d,funext λv=>propext (e v)⟩
theorem Bp {n:Nat}{W:Int->Prop}(hn:n<=256) (p:VI) (q:Bool):∃e,mZ ⟨wonL n W,p⟩ (b2i q)=some e/\e.length<=n/\(∀v,v∈e↔G4 (Xn n) (wB W) q v):=by
 have hl:=rf n W
 unfold mZ
 dsimp only
 rw[hl,decide_eq_false (by omega),cond_false]
 obtain⟨c,h1,d,k⟩:=cg (f:=jJ ⟨wonL n W,p⟩ (b2i q)) (λa (c:VI)=>c.length<=a/\∀v,v∈c↔G4 (Xn n) (wB W) q v/\v<a) n (s:=[]) ⟨by simp,λv=>⟨λh=>absurd h (by simp),λh=>by have:=h.1.1.1;omega⟩⟩ (λa c l ⟨m,j⟩=>by
  have i:Xn n (a:Int):=⟨by omega,by omega⟩
  unfold jJ
  dsimp only
  rw[lF i,GA,oV,app1 (by omega) rfl]
  cases b:(wB W (a:Int)==q) with
  |true=>
   have b:wB W (a:Int)=q:=by simpa using b
   refine⟨_,rfl,by simp;omega,λv=>?_⟩
   rw[E4,j,E7]
   constructor
   .rintro(⟨h1,d⟩|rfl)
    .exact⟨h1,by omega⟩
    .exact⟨⟨i,b⟩,by omega⟩
   .rintro⟨h1,d⟩
    by_cases g:v=a
    .exact .inr g
    .exact .inl ⟨h1,by omega⟩
  |false=>
   have b:¬wB W (a:Int)=q:=by simpa using b
   refine⟨_,rfl,by omega,λv=>?_⟩
   rw[j]
   constructor
   .rintro⟨h1,d⟩
    exact⟨h1,by omega⟩
   .rintro⟨h1,d⟩
    have:v≠a:=λg=>b (by rw[← g];exact h1.2)
    exact⟨h1,by omega⟩)
 rw[h1,GA,bV]
 exact⟨c,rfl,d,λv=>by rw[k];exact⟨λh=>h.1,λh=>⟨h,h.1.2⟩⟩⟩
section
variable {g:Parity}{n:Nat}(hp:c8 g=true) (hn:n=g.Prio.length){W:Int->Prop}(hW:Par.Sol (gI g) (Xn n) false W)
include hp hn hW
omit hW in
theorem EI {P:VV}(S:PrevT g.Arena.Next n n P){k:VI}(hk:k.length=n) (Q:Par.PInv (gI g) (Xn n) (wB W) (pkL k)){v:Int}(c:Xn n v) (Y:(gI g).own v=wB W v){row:VI}(hr:idx g.Arena.Next v=some row){i:Nat}{u:Int}(h1:row[i]? =some u)
 (C:wB W u=wB W v/\G3 (G5 (gI g) (G6 (pkL k) v u)) (G4 (Xn n) (wB W) (wB W v)) (wB W v) (G4 (Xn n) (wB W) (wB W v)))
 (M:∀(j:Nat) y,j<i->row[j]? =some y->¬(wB W y=wB W v/\G3 (G5 (gI g) (G6 (pkL k) v y)) (G4 (Xn n) (wB W) (wB W v)) (wB W v) (G4 (Xn n) (wB W) (wB W v))))
 {B:VB} (N:B.length=n) (o:In B=G4 (Xn n) (wB W) (wB W v)):
 ∃q,uA ⟨g.Arena.Owner,g.Prio,g.Arena.Next,P,k⟩ B v=some (u,q)/\q.length=n/\pkL q=G6 (pkL k) v u:=by
 have h:=GOk.of hp
 rw[← hn]at h
 have V:GU (gI g) (Xn n):=np h (pu hp)
 obtain⟨am,an,ac⟩:=h.row v row hr
 have ah:=(C7.1 h1).1
 have ai:=h.n256
 unfold uA
 obtain⟨ab,ae,r⟩:=cZ (f:=oQ ⟨g.Arena.Owner,g.Prio,g.Arena.Next,P,k⟩ B v) (λj (a:Int×VI)=>a.1=(j:Int)/\j<=i/\a.2.length=n/\∃s,pkL a.2=G6 (pkL k) v s) (λ(a:Int×VI)=>a.1=u/\a.2.length=n/\pkL a.2=G6 (pkL k) v u) (λ_=>False) i (λj a ⟨t,ag,w,s,l⟩=>by
  obtain⟨ak,a⟩:=a
  dsimp only at t w l
  subst t
  have T:j<row.length:=by omega
  have b:row[j]? =some row[j]:=ct T
  generalize row[j]=y at b
  obtain⟨L,af⟩:=ac y (FI b)
  have K:Xn n y:=⟨L,af⟩
  have aa:(gI g).E v y:=by show y∈cX g.Arena v;rw[dV hr];exact FI b
  unfold oQ
  dsimp only
  rw[hr,GA,decide_eq_true (show(j:Int)<(row.length:Int) by omega),cond_true,GA,bT,b,GA,dC (B:=B) L (by omega),GA]
  have O:decide (In B y)=(wB W y==wB W v):=by
   rw[F6,decide_eq_true_iff,o]
   unfold G4
   simp[K]
  have H:FW .i64 ((j:Int)+1)=((j+1:Nat):Int):=by rw[wr' (by omega) (by omega)];omega
  rw[O]
  cases D:(wB W y==wB W v) with
  |false=>
   simp only[GB,cond_true,H]
   have X:¬wB W y=wB W v:=by simpa using D
   have:j≠i:=λm=>by subst m;rw[h1]at b;cases b;exact X C.1
   exact⟨_,rfl,by omega,rfl,by omega,w,s,l⟩
  |true=>
   have I:wB W y=wB W v:=by simpa using D
   obtain⟨al,Z⟩:=cI (xs:=a) (i:=v) c.1 (by have:=c.2;omega)
   obtain⟨e,G,aj⟩:=cY (xs:=a) (i:=v) y c.1 (by have:=c.2;omega)
   have p:pkL e=G6 (pkL k) v y:=by rw[td G,l,sa]
   have d:e.length=n:=by omega
   have E:gS ⟨g.Arena.Owner,g.Prio,g.Arena.Next,P,e⟩=G5 (gI g) (G6 (pkL k) v y):=by rw[CF h P d,p]
   have R:GU (gS ⟨g.Arena.Owner,g.Prio,g.Arena.Next,P,e⟩) (In B):=by
    rw[E,o]
    exact Q.noDead V aa K I _
   have F:=Du (h.wfS S d) h.pri N R (wB W v)
   rw[E,o]at F
   simp only[F7,cond_false]
   rw[Z,GA,G,GA,Ac h c,Y,GA,F,GA]
   by_cases hd:G3 (G5 (gI g) (G6 (pkL k) v y)) (G4 (Xn n) (wB W) (wB W v)) (wB W v) (G4 (Xn n) (wB W) (wB W v))
   .rw[decide_eq_true hd,cond_true]
    have:¬j<i:=λU=>M j y U b ⟨I,hd⟩
    have:j=i:=by omega
    subst this
    rw[h1]at b;cases b
    exact⟨_,rfl,rfl,d,p⟩
   .rw[decide_eq_false hd,cond_false,H]
    have:j≠i:=λm=>by subst m;rw[h1]at b;cases b;exact hd C.2
    exact⟨_,rfl,by omega,rfl,by omega,d,y,p⟩) (2 ^ 64) 0 (0,k) (by omega) ⟨rfl,by omega,hk,pkL k v,(vL rfl).symm⟩ (by omega)
 match ab,r with
 |.inl a,r=>
  obtain⟨x,z,A⟩:=r
  obtain⟨ao,ad⟩:=a
  dsimp only at x z A
  subst x
  rw[ae,GA,zJ]
  exact⟨ad,rfl,z,A⟩
omit hW in
theorem D1 {k:VI}(hk:k.length=n) (M:Par.PInv (gI g) (Xn n) (wB W) (pkL k)){v:Int}(l:Xn n v) (an:pkL k v= -1){row:VI}(hr:idx g.Arena.Next v=some row){i:Nat}{u:Int}(h1:row[i]? =some u)
 (K:wB W u=wB W v/\G3 (G5 (gI g) (G6 (pkL k) v u)) (G4 (Xn n) (wB W) (wB W v)) (wB W v) (G4 (Xn n) (wB W) (wB W v)))
 (ag:∀(j:Nat) y,j<i->row[j]? =some y->¬(wB W y=wB W v/\G3 (G5 (gI g) (G6 (pkL k) v y)) (G4 (Xn n) (wB W) (wB W v)) (wB W v) (G4 (Xn n) (wB W) (wB W v))))
 {L:VI} (w:∀e,e∈L↔G4 (Xn n) (wB W) (wB W v) e):
 ∃E,cntM (ib g (wonL n W) v L row) row.length 0 k=some (.inr E)/\E.length=n/\pkL E=G6 (pkL k) v u:=by
 have h:=GOk.of hp
 rw[← hn]at h
 have aq:GU (gI g) (Xn n):=np h (pu hp)
 obtain⟨aT,aU,aD⟩:=h.row v row hr
 have aM:=(C7.1 h1).1
 have aO:=h.n256
 have N:(λe=>e∈L)=G4 (Xn n) (wB W) (wB W v):=funext λe=>propext (w e)
 obtain⟨aA,aF,p⟩:=xy (f:=ib g (wonL n W) v L row) (λj (d:VI)=>j<=i/\d.length=n/\pkL d=pkL k) (λ_=>False) (λ(d:VI)=>d.length=n/\pkL d=G6 (pkL k) v u) row.length (s:=k) ⟨by omega,hk,rfl⟩ (λj d am ⟨aJ,Y,G⟩=>by
  have c:row[j]? =some row[j]:=ct am
  generalize row[j]=y at c
  obtain⟨aH,aI⟩:=aD y (FI c)
  have V:Xn n y:=⟨aH,aI⟩
  have U:(gI g).E v y:=by show y∈cX g.Arena v;rw[dV hr];exact FI c
  unfold ib
  rw[bT,c,GA,lF V,GA,lF l,GA]
  have ak:(b2i (wB W y) !=b2i (wB W v))= !(wB W y==wB W v):=by unfold bne;rw[oV]
  rw[ak]
  cases P:(wB W y==wB W v) with
  |false=>
   simp only[GB,cond_true]
   have ar:¬wB W y=wB W v:=by simpa using P
   have:j≠i:=λb=>by subst b;rw[h1]at c;cases c;exact ar K.1
   exact⟨_,rfl,by omega,Y,G⟩
  |true=>
   have T:wB W y=wB W v:=by simpa using P
   obtain⟨aR,au⟩:=cI (xs:=d) (i:=v) l.1 (by have:=l.2;omega)
   obtain⟨A,Q,aP⟩:=cY (xs:=d) (i:=v) y l.1 (by have:=l.2;omega)
   obtain⟨aS,av⟩:=cI (xs:=A) (i:=v) l.1 (by have:=l.2;omega)
   obtain⟨aE,R,aQ⟩:=cY (xs:=A) (i:=v) (-1) l.1 (by have:=l.2;omega)
   have z:pkL A=G6 (pkL k) v y:=by rw[td Q,G]
   have aw:pkL aE=pkL k:=by rw[td R,z,sa,vL an]
   have S:A.length=n:=by omega
   obtain⟨ae,ab,ac,B⟩:=Da hp hn S (λx m=>by
    rw[z]at m ⊢
    unfold G6 at m ⊢
    by_cases b:x=v
    .rw[if_pos b];subst b;exact U
    .rw[if_neg b]at m ⊢
     exact(M.pick x m).2.2.1)
   rw[z]at B
   have ai:GU (gI ae) (λe=>e∈L):=by
    rw[B,N]
    exact M.noDead aq U V T _
   obtain⟨q,O,W',ad,C,H,I,aK,aL⟩:=yE ac (L:=L) (λe ax=>((w e).1 ax).1) ai
   rw[B,N]at C
   have al:=Par.hold_iff (q:=wB W v) C
   simp only[F7,cond_false]
   rw[au,GA,Q,GA,ab,GA,ad,GA,GA]
   dsimp only
   have az:(bif !wB W v then((O.length:Int)==0) else((q.length:Int)==0))=decide (G3 (G5 (gI g) (G6 (pkL k) v y)) (G4 (Xn n) (wB W) (wB W v)) (wB W v) (G4 (Xn n) (wB W) (wB W v))):=by
    rw[F6,decide_eq_true_iff,← al]
    cases D:wB W v with
    |false=>
     simp only[GB,cond_true]
     rw[show(((O.length:Int)==0)=true)↔O=[] from by simp]
     constructor
     .intro b x m
      refine⟨λ_=>trivial,λ_=>?_⟩
      apply F9
      intro ap
      have:=(I x).2 ⟨(w x).2 (by rw[D];exact m),ap⟩
      rw[b]at this;cases this
     .intro ha
      cases aj:O with
      |nil=>rfl
      |cons x xs=>
       obtain⟨t,Z⟩:=(I x).1 (by rw[aj];exact Gi ..)
       exact absurd ((ha x (by have:=(w x).1 t;rwa [D]at this)).2 trivial) Z
    |true=>
     simp only[F7,cond_false]
     rw[show(((q.length:Int)==0)=true)↔q=[] from by simp]
     constructor
     .intro b x m
      refine⟨λay=>?_,λaf=>absurd af (by decide)⟩
      have:=(H x).2 ay
      rw[b]at this;cases this
     .intro ha
      cases ah:q with
      |nil=>rfl
      |cons x xs=>
       have t:=(H x).1 (by rw[ah];exact Gi ..)
       have:=(ha x (by have:=C.sub x t;rwa [D]at this)).1 t
       cases this
   have aa:∀(a r o:Bool) {X:Type} (F:Bool->Option X),(FR (bif (b2i o==0) then some a else some false) λaB=>FR (bif aB then some true else FR (some (b2i o)) λaG=>FR (bif (aG==1) then some r else some false) λaC=>some aC) F)=F (bif !o then a else r):=by
    intro a r o X F
    cases o <;> cases a <;> cases r <;> rfl
   rw[aa,az]
   by_cases hd:G3 (G5 (gI g) (G6 (pkL k) v y)) (G4 (Xn n) (wB W) (wB W v)) (wB W v) (G4 (Xn n) (wB W) (wB W v))
   .rw[decide_eq_true hd,cond_true]
    have:¬j<i:=λao=>ag j y ao c ⟨T,hd⟩
    have:j=i:=by omega
    subst this
    rw[h1]at c;cases c
    exact⟨_,rfl,S,z⟩
   .rw[decide_eq_false hd,cond_false,av,GA,R,GA]
    have:j≠i:=λb=>by subst b;rw[h1]at c;cases c;exact hd K.2
    exact⟨_,rfl,by omega,by omega,aw⟩)
 match aA,p with
 |.inr d,p=>
  rcases p with ⟨aN,_⟩|p
  .omega
  .exact⟨d,aF,p.1,p.2⟩
omit hp hn hW in
theorem p7 {n:Nat}(v:Int):pkL (FK n (-1)) v= -1:=by
 unfold pkL
 cases h:idx (FK n (-1:Int)) v with
 |none=>rfl
 |some x=>
  obtain⟨a,b⟩:=cO h
  rw[cN a,GH]at h
  split at h
  .cases h;rfl
  .cases h
omit hW in
theorem y5 {A:VI}(i:jn g=some A) (v:A.length<=256):p9 g (FK n (-1))=some true:=by
 have h:=GOk.of hp
 rw[← hn]at h
 obtain⟨h1,q,s,t,u⟩:=dZ hp
 have j:uo g (FK n (-1))=some (g,true):=by
  unfold uo
  rw[mw,hp,GA]
  have k:r7 g (FK n (-1))=some true:=by
   unfold r7
   rw[FD,← hn]
   have:=d9 (f:=nQ g (FK n (-1))) (r:=false) (λ_:Int=>true) (xs:=FK n (-1)) (n:=n) (by simp) (λp x a=>by
    unfold nQ
    have o:x= -1:=by
     rw[GH]at a
     split at a
     .cases a;rfl
     .cases a
    rw[bT,a,GA,o];rfl)
   rw[this]
   simp only[bne_self_eq_false,cond_false,Gc,implies_true,if_true,GA,bV]
  rw[k]
  simp only[F7,cond_false,GA]
  rw[zt (by have:=h.lo;have:=h.n256;omega),GA,zt (by omega),GA,FD]
  obtain⟨c,d,e⟩:=cg (f:=oG g (FK n (-1))) (λb (c:VV)=>c=g.Arena.Next.take b) n (s:=[]) rfl (λb c m hs=>by
   subst hs
   have a:g.Arena.Next[b]? =some (g.Arena.Next[b]'(by have:=h.ln;omega)):=ct (by have:=h.ln;omega)
   generalize g.Arena.Next[b]'(by have:=h.ln;omega)=row at a
   obtain⟨w,_,_⟩:=h.row (b:Int) row (by rw[bT];exact a)
   have hk:idx (FK n (-1:Int)) (b:Int)=some (-1):=by rw[bT,GH,if_pos m]
   unfold oG
   rw[bT,a,GA,zt (by omega),GA,hk,GA]
   simp only[show decide ((0:Int)<= -1)=false from rfl,cond_false,GA]
   rw[app1 (by rw[FE];omega) rfl,GA]
   refine⟨_,rfl,?_⟩
   rw[Gv,a];rfl)
  rw[d,e,GA,bV,List.take_of_length_le (by have:=h.ln;omega)]
 unfold p9
 rw[j,GA]
 dsimp only
 rw[cond_true,i,GA,GA]
 have l:uB A A=some true:=by
  unfold uB
  have:=d9 (f:=oR A A) (r:=false) (λ_:Int=>true) (xs:=A) (n:=A.length) rfl (λp x a=>by
   unfold oR
   rw[bT,a,GA,GA]
   simp)
  rw[this]
  simp only[bne_self_eq_false,cond_false,Gc,implies_true,if_true,GA,bV]
 rw[l];rfl
theorem zA (O:jn g=some (wonL n W)):∃k,qa g (FK n (-1))=some (⟨wonL n W,k⟩,true)/\nc g (FK n (-1)) (wonL n W)=some ⟨wonL n W,k⟩/\k.length=n/\(∀v x,idx k v=some x->x= -1\/0<=x)/\Par.Ans (gI g) (Xn n) (wB W) (pkL k):=by
 have h:=GOk.of hp
 rw[← hn]at h
 have F:=h.n256
 have am:=rf n W
 obtain⟨P,ax,ay⟩:=wY h
 obtain⟨B0,z,T,U⟩:=yw (W:=W) F false
 obtain⟨B1,A,V,X⟩:=yw (W:=W) F true
 have z:jB (wonL n W) 0=some B0:=z
 have A:jB (wonL n W) 1=some B1:=A
 unfold qa nc
 rw[y5 hp hn O (by omega),GA,O,ax,FD,appL (by simp;omega) rfl]
 simp only[F7,cond_false,GA,G0,FD,am]
 obtain⟨aK,Y,Z⟩:=cg (f:=mA g (FK n (-1)) (wonL n W)) (λb (c:VI)=>c=FK n (-1)) n (s:=FK n (-1)) rfl (λb c u hs=>by
  subst hs
  have hk:idx (FK n (-1:Int)) (b:Int)=some (-1):=by rw[bT,GH,if_pos u]
  unfold mA
  rw[hk]
  simp only[GA,show((-1:Int) != -1)=false from rfl,cond_false]
  rw[qZ (by simp;omega),GA]
  refine⟨_,rfl,?_⟩
  apply List.ext_getElem?
  intro j
  rw[List.getElem?_set]
  simp only[GH,FD]
  split
  .rename_i e;subst e;rw[if_pos u]
  .rfl)
 subst Z
 rw[Y,GA,bV,z,GA,A,GA]
 obtain⟨c,y,aa,ab,rfl,ac,ad,aF,ae,af⟩:=vU (f:=mB g (wonL n W) ⟨g.Arena.Owner,g.Prio,g.Arena.Next,P,FK n (-1)⟩ B0 B1) (g:=jQ g (wonL n W)) (λb (c y:VI)=>c=y/\c.length=n/\Par.PInv (gI g) (Xn n) (wB W) (pkL c)/\(∀j:Nat,b<=j->pkL c j= -1)/\(∀v,Xn n v->v<b->(gI g).own v=wB W v->0<=pkL c v)/\(∀v x,idx c v=some x->x= -1\/0<=x)) n (s:=FK n (-1)) (t:=FK n (-1)) ⟨rfl,by simp,Par.PInv.start hW (λv _=>Co) (λv=>by rw[p7];decide),λj _=>p7 _,λv d u=>by have:=d.1;omega,λv x o=> .inl (by rw[← rP o];exact p7 v)⟩ (λb c y u ⟨e,q,r,s,L,M⟩=>by
  subst e
  have d:Xn n (b:Int):=⟨by omega,by omega⟩
  have Q:=pq q d.1 d.2
  rw[s b (Fg b)]at Q
  unfold mB jQ
  rw[Q,lF d,Ac h d]
  simp only[GA,show decide ((0:Int)<= -1)=false from rfl,cond_false]
  by_cases l:(gI g).own (b:Int)=wB W (b:Int)
  · -- a pick
    obtain⟨row,hr⟩:=cI (xs:=g.Arena.Next) (i:=(b:Int)) (by omega) (by have:=h.ln;omega)
    obtain⟨i,az,aL,aA,aB⟩:=r.ex d l (by rw[s b (Fg b)];decide)
    obtain⟨j,i,h1,t,N⟩:=xD (row:=row) (C:=λi=>wB W i=wB W (b:Int)/\G3 (G5 (gI g) (G6 (pkL c) b i)) (G4 (Xn n) (wB W) (wB W b)) (wB W b) (G4 (Xn n) (wB W) (wB W b))) ⟨i,by have:i∈cX g.Arena b:=az;rwa [dV hr]at this,aA,aB⟩
    have R:(gI g).E (b:Int) i:=by show i∈cX g.Arena b;rw[dV hr];exact FI h1
    have G:=(EN h R).2
    obtain⟨aE,aq,aI,ar⟩:=Bp (W:=W) F [] (wB W (b:Int))
    obtain⟨B,ag,ah,ai⟩:∃B,(bif (b2i (wB W (b:Int))==1) then some B1 else some B0)=some B/\B.length=n/\In B=G4 (Xn n) (wB W) (wB W b):=by
     cases aG:wB W (b:Int) with
     |true=>exact⟨B1,rfl,V,X⟩
     |false=>exact⟨B0,rfl,T,U⟩
    obtain⟨ao,ap,K,p⟩:=EI hp hn ay q r d l hr h1 t N ah ai
    obtain⟨w,au,av,aw⟩:=D1 hp hn q r d (s b (Fg b)) hr h1 t N ar
    have:w=ao:=Ae av K (by rw[aw,p])
    subst this
    obtain⟨aJ,ak⟩:=cI (xs:=w) (i:=(b:Int)) (by omega) (by omega)
    obtain⟨aD,S,aH⟩:=cY (xs:=w) (i:=(b:Int)) i (by omega) (by omega)
    have:aD=w:=Ae (n:=n) (by omega) K (by rw[td S,p,sa])
    subst this
    have D:(b2i (wB W (b:Int)) !=b2i ((gI g).own (b:Int)))=false:=by rw[l];simp
    have E:(b2i ((gI g).own (b:Int)) !=b2i (wB W (b:Int)))=false:=by rw[l];simp
    rw[D,E,cond_false,cond_false,GA,cond_false,ag,GA,ap,GA]
    dsimp only
    rw[ak,GA,S,GA,aq,GA,hr,GA,au,GA,bV]
    refine⟨_,_,rfl,rfl,rfl,K,?_,λI aj=>?_,λv H al m=>?_,λv x o=>?_⟩
    .rw[p];exact r.step d l R G t.1 t.2
    .rw[p]
     unfold G6
     rw[if_neg (by omega)]
     exact s I (by omega)
    .rw[p]
     unfold G6
     by_cases e:v=b
     .rw[if_pos e];exact G.1
     .rw[if_neg e];exact L v H (by omega) m
    .have:=rP o
     rw[p]at this
     unfold G6 at this
     by_cases e:v=b
     .rw[if_pos e]at this;rw[← this];exact .inr G.1
     .rw[if_neg e]at this
      obtain⟨aC,aM⟩:=cO o
      have hs:=pq q aC (by omega)
      rw[this]at hs
      exact M v x hs
  .have D:(b2i (wB W (b:Int)) !=b2i ((gI g).own (b:Int)))=true:=by
    unfold bne;rw[oV]
    cases o:wB W (b:Int) <;> cases an:(gI g).own (b:Int) <;> simp_all
   have E:(b2i ((gI g).own (b:Int)) !=b2i (wB W (b:Int)))=true:=by
    unfold bne;rw[oV]
    cases o:wB W (b:Int) <;> cases an:(gI g).own (b:Int) <;> simp_all
   rw[D,E,cond_true,cond_true,GA,cond_true]
   refine⟨_,_,rfl,rfl,rfl,q,r,λI aj=>s I (by omega),λv H al m=>?_,M⟩
   have:v≠b:=λe=>l (by rw[← e];exact m)
   exact L v H (by omega) m)
 rw[aa,ab,GA,GA,bV,bV,appL (by simp;omega) rfl,GA,G0]
 exact⟨c,rfl,rfl,ac,af,ad.ans λv d m=>ae v d d.2 m⟩
end
end
section
open Classical
theorem xI {g:Parity}{n:Nat}(h:GOk g n):qz g.Arena=some (FK n (-1)):=by
 have hn:=h.n256
 unfold qz
 rw[h.lo,dq (by omega) rfl,GA,FD]
 obtain⟨d,h1,e,c⟩:=fill (f:=ox) (λ_=> -1) n (s0:=FK n 0) (by simp) (λj d i hs=>rfl)
 rw[h1,GA,bV]
 congr 1
 apply List.ext_getElem?
 intro b
 rw[GH]
 by_cases a:b<n
 .rw[if_pos a,← bT];exact c b a
 .rw[if_neg a];exact List.getElem?_eq_none (by omega)
theorem yr {n:Nat}(hn:n<=256):uz (n:Int)=some (FK n (-1)):=by
 unfold uz
 have hr:rng (n:Int)=some ():=by
  unfold rng
  first
   |rfl
   |rw[if_pos (by omega)]
 rw[hr,GA,show FV ((n:Int)-0)=n from by omega]
 obtain⟨a,h1,c⟩:=cg (f:=oP) (λb (a:VI)=>a=FK b (-1)) n (s:=[]) rfl (λb a d hs=>by
  subst hs
  unfold oP
  rw[app1 (by simp;omega) rfl,GA]
  exact⟨_,rfl,by rw[G1]⟩)
 rw[h1,GA,bV,c]
structure Solv (g:Parity) (W:Int->Prop) (k:VI):Prop where
 sol:Par.Sol (gI g) (Xn g.Prio.length) false W
 len:k.length=g.Prio.length
 pick:∀v x,idx k v=some x->x= -1\/0<=x
 ans:Par.Ans (gI g) (Xn g.Prio.length) (wB W) (pkL k)
theorem xj {g:Parity}(hp:c8 g=true):∃W k,ur g=some ⟨wonL g.Prio.length W,k⟩/\mH g=some ⟨wonL g.Prio.length W,k⟩/\jn g=some (wonL g.Prio.length W)/\eK g=some (wonL g.Prio.length W)/\Solv g W k:=by
 have h:=GOk.of hp
 obtain⟨W,a,b,c⟩:=Cr h (pu hp)
 obtain⟨k,d,e,f,i,j⟩:=zA hp rfl c a
 refine⟨W,k,?_,?_,a,b,c,f,i,j⟩
 .unfold ur
  rw[mw,hp,GA,F7,cond_false,yr h.n256,GA,d];rfl
 .unfold mH
  rw[uM,hp,GA,F7,cond_false,xI h,GA,b,GA,e];rfl
end
def df (xs:VI) (v:Int):Int:=match xs.findIdx? (λx=>v==x) with | some a=>(a:Int) | none=> -1
theorem vC {xs:VI}{v:Int}(h:v∉xs):df xs v= -1:=by
 unfold df
 have:xs.findIdx? (λx=>v==x)=none:=by
  rw[GW]
  intro x b
  simp only[beq_eq_false_iff_ne]
  exact λa=>h (a ▸ b)
 rw[this]
theorem ye {xs:VI}{v:Int}(h:v∈xs):∃i:Nat,df xs v=(i:Int)/\i<xs.length/\xs[i]? =some v:=by
 unfold df
 cases a:xs.findIdx? (λx=>v==x) with
 |none=>
  rw[GW]at a
  have:=a v h
  simp at this
 |some i=>
  rw[GX]at a
  obtain⟨h1,b,_⟩:=a
  refine⟨i,rfl,h1,?_⟩
  rw[ct h1]
  have:=beq_iff_eq.1 b
  rw[← this]
theorem BQ (xs:VI) (v:Int):decide (df xs v<0)= !decide (v∈xs):=by
 by_cases h:v∈xs
 .obtain⟨a,h1,_⟩:=ye h
  rw[h1]
  have:¬(a:Int)<0:=by omega
  simp[h,this]
 .rw[vC h]
  simp[h]
theorem oz (xs:VI) (v:Int):cS xs v=some (df xs v):=iI xs v
def addN (xs:VI) (u:Int):VI:=if u∈xs then xs else xs++[u]
theorem vB {xs:VI}{u:Int}(h:u∉xs):df (xs++[u]) u=(xs.length:Nat):=by
 unfold df
 have:(xs++[u]).findIdx? (λx=>u==x)=some xs.length:=by
  rw[List.findIdx?_append]
  have h1:xs.findIdx? (λx=>u==x)=none:=by
   rw[GW]
   intro x b
   simp only[beq_eq_false_iff_ne]
   exact λa=>h (a ▸ b)
  rw[h1]
  simp
 rw[this]
def Names (n:Nat) (xs:VI):Prop:=xs.Nodup/\∀x∈xs,0<=x/\x<n
theorem Names.len {n:Nat}{xs:VI}(h:Names n xs):xs.length<=n:=ez n xs h.1 h.2
theorem Names.add {n:Nat}{xs:VI}(h:Names n xs){u:Int}(f:0<=u) (g:u<n):Names n (addN xs u)/\∀(k:Nat) v,xs[k]? =some v->(addN xs u)[k]? =some v:=by
 unfold addN
 by_cases c:u∈xs
 .rw[if_pos c];exact⟨h,λk v hk=>hk⟩
 .rw[if_neg c]
  refine⟨⟨?_,λx b=>?_⟩,λk v hk=>?_⟩
  .rw[Gq]
   refine⟨h.1,by simp,λa ha i d e=>?_⟩
   rw[E7]at d
   exact c (by rw[← d,← e];exact ha)
  .rw[E4,E7]at b
   rcases b with b|rfl
   .exact h.2 x b
   .exact⟨f,g⟩
  .rw[Fw (C7.1 hk).1];exact hk
theorem yd {xs:VI}{v:Int}{j:Nat}(h:xs[j]? =some v) (hb:∀a,a<j->xs[a]?≠some v):df xs v=(j:Int):=by
 have d:=(C7.1 h).1
 unfold df
 have:xs.findIdx? (λx=>v==x)=some j:=by
  rw[GX]
  refine⟨d,?_,λa c=>?_⟩
  .have:=(C7.1 h).2
   simp[this]
  .have h1:=hb a c
   rw[ct (by omega)]at h1
   simp only[Bool.not_eq_true,beq_eq_false_iff_ne]
   exact λb=>h1 (by rw[b])
 rw[this]
theorem Ek {x k:Place}(h:(x.At==k.At&&x.Record==k.Record)=true):x=k:=by
 rw[ra,beq_iff_eq,beq_iff_eq]at h
 cases x
 cases k
 simp only at h
 rw[h.1,h.2]
def locR (K:VL) (k:Place):Option Nat:=K.findIdx? (λx=>x.At==k.At&&x.Record==k.Record)
def addR (K:VL) (k:Place):VL:=match locR K k with | some _=>K | none=>K++[k]
def atR (K:VL) (k:Place):Int:=match locR K k with | some a=>(a:Int) | none=>(K.length:Int)
theorem xo (K:VL) (k:Place):K.length<=(addR K k).length/\(addR K k).length<=K.length+1:=by
 unfold addR
 cases locR K k <;> simp
theorem xn {K:VL}{k:Place}{i:Nat}{v:Place}(h:K[i]? =some v):(addR K k)[i]? =some v:=by
 unfold addR
 cases locR K k with
 |some _=>exact h
 |none=>
  have:=(C7.1 h).1
  dsimp only
  rw[Fw this];exact h
theorem A9 {K:VL}{k x:Place}(h:x∈addR K k):x∈K\/x=k:=by
 unfold addR at h
 cases a:locR K k with
 |some _=>rw[a]at h;exact .inl h
 |none=>rw[a]at h;simpa using h
theorem AO {K:VL}{k:Place}{i:Nat}(h:locR K k=some i):K[i]? =some k:=by
 unfold locR at h
 obtain⟨h1,a,b⟩:=GX.1 h
 have:k=K[i]:=(Ek a).symm
 rw[ct h1,← this]
theorem AN {K:VL}{k:Place}(h:locR K k=none):k∉K:=λhm=>by
 unfold locR at h
 rw[GW]at h
 have:=h k hm
 simp at this
theorem Cy (K:VL) (k:Place):0<=atR K k/\(addR K k)[(atR K k).toNat]? =some k:=by
 unfold atR addR
 cases h:locR K k with
 |none=>exact⟨by dsimp only;omega,by dsimp only;rw[Gb];simp⟩
 |some a=>exact⟨by dsimp only;omega,by dsimp only;rw[Gb];exact AO h⟩
theorem yN {K:VL}(hn:K.Nodup) (k:Place):(addR K k).Nodup:=by
 unfold addR
 cases h:locR K k with
 |none=>
  dsimp only
  refine Gq.2 ⟨hn,by simp,λa ha c hb b=>?_⟩
  rw[E7]at hb
  exact AN h (hb ▸ b ▸ ha)
 |some d=>exact hn
def ej (a:Nat->Place) (K:VL):Nat->VL×VI
 |0=>(K,[])
 |j+1=>(addR (ej a K j).1 (a j),(ej a K j).2++[atR (ej a K j).1 (a j)])
structure RowR (ky:Nat->Place) (K:VL) (j:Nat) (K':VL) (row:VI):Prop where
 pre:∀(i:Nat) v,K[i]? =some v->K'[i]? =some v
 len:K.length<=K'.length
 le:K'.length<=K.length+j
 nod:K.Nodup->K'.Nodup
 rl:row.length=j
 at_:∀i:Nat,i<j->∃x,row[i]? =some x/\0<=x/\K'[x.toNat]? =some (ky i)
 mem:∀v∈K',v∈K\/∃i:Nat,i<j/\v=ky i
theorem nu (d:Nat->Place) (K:VL):∀a,RowR d K a (ej d K a).1 (ej d K a).2
 |0=>⟨λ_ _ h=>h,Fg _,Fg _,id,rfl,λb f=>absurd f (Gy b),λv h=> .inl h⟩
 |a+1=>by
  have h:=nu d K a
  unfold ej
  generalize ej d K a=F at *
  have hl:=xo F.1 (d a)
  obtain⟨i,j⟩:=Cy F.1 (d a)
  refine⟨λb v c=>xn (h.pre b v c),GQ h.len hl.1,?_,λhn=>yN (h.nod hn) _,by simp[h.rl],λb f=>?_,λv c=>?_⟩
  .have:=h.le;dsimp only;omega
  .by_cases e:b=a
   .subst e
    refine⟨_,by rw[← h.rl];simp,i,j⟩
   .obtain⟨x,g,m,n⟩:=h.at_ b (by omega)
    have l:=(C7.1 g).1
    exact⟨x,by rw[Fw l];exact g,m,xn n⟩
  .rcases A9 c with c|c
   .rcases h.mem v c with k|⟨b,f,e⟩
    .exact .inl k
    .exact .inr ⟨b,by omega,e⟩
   .exact .inr ⟨a,by omega,c⟩
def dc (ps:VP) (v i:Int):Bool:=match idx ps i with | some p=>decide (v∈p.Give) | none=>false
def askI (ps:VP) (v i:Int):Bool:=match idx ps i with | some p=>decide (v∈p.Ask) | none=>false
def fN (ps:VP) (rc:VI) (v:Int):VI:=rc.filter (dc ps v)++rc.filter λa=> !dc ps v a
def di (f:Int->Bool) (xs:VI):Nat->Int
 |0=> -1
 |j+1=>bif (match xs[j]? with | some x=>f x | none=>false) then(j:Int) else di f xs j
def lh (ps:VP) (rc:VI) (v:Int):Int:=
 bif decide (di (askI ps v) rc rc.length<0)&&decide (di (dc ps v) rc rc.length<0) then 0
 else bif decide (di (dc ps v) rc rc.length<di (askI ps v) rc rc.length) then 2 * di (askI ps v) rc rc.length+1
 else 2 * di (dc ps v) rc rc.length+2
theorem jc (f:Int->Bool) (xs:VI):∀a:Nat,-1<=di f xs a/\di f xs a<a
 |0=>by unfold di;omega
 |a+1=>by
  have:=jc f xs a
  unfold di
  cases(match xs[a]? with | some x=>f x | none=>false) with
  |true=>rw[cond_true];omega
  |false=>rw[cond_false];omega
theorem BR (ps:VP){rc:VI}(v:Int) (h:rc.length<=4):inR 41 (lh ps rc v)=true:=by
 have a:=jc (askI ps v) rc rc.length
 have g:=jc (dc ps v) rc rc.length
 rw[gQ]
 unfold lh
 generalize di (askI ps v) rc rc.length=x at *
 generalize di (dc ps v) rc rc.length=y at *
 by_cases h1:x<0
 .by_cases c:y<0
  .simp[h1,c]
  .by_cases b:y<x
   .omega
   .simp only[h1,c,b,decide_true,decide_false,Bool.and_false,cond_false];omega
 .by_cases b:y<x
  .simp only[h1,b,decide_true,decide_false,Bool.false_and,cond_false,cond_true];omega
  .simp only[h1,b,decide_false,Bool.false_and,cond_false];omega
theorem mV (p:Int->Bool):∀xs:VI,(xs.filter p).length+(xs.filter λx=> !p x).length=xs.length
 | []=>rfl
 |x::xs=>by
  have:=mV p xs
  simp only[List.filter_cons]
  cases p x <;> simp <;> omega
theorem xY (ps:VP){rc:VI}{k:Nat}(v:Int) (hl:rc.length=k) (hr:∀x∈rc,0<=x/\x<(k:Int)):(fN ps rc v).length=k/\∀x∈fN ps rc v,0<=x/\x<(k:Int):=by
 unfold fN
 refine⟨by rw[C9,mV,hl],λx a=>?_⟩
 rcases E4.1 a with h|h
 .exact hr x (Gj.1 h).1
 .exact hr x (Gj.1 h).1
theorem xX (ps:VP){rc:VI}(v:Int) (h:rc.Nodup):(fN ps rc v).Nodup:=by
 unfold fN
 rw[Gq]
 refine⟨h.sublist List.filter_sublist,h.sublist List.filter_sublist,λa ha d hb c=>?_⟩
 subst c
 have h1:=(Gj.1 ha).2
 have b:=(Gj.1 hb).2
 rw[h1]at b
 cases b
structure VOk (n k:Nat) (v:Place):Prop where
 a0:0<=v.At
 a1:v.At<(n:Int)
 rl:v.Record.length=k
 rin:∀x∈v.Record,0<=x/\x<(k:Int)
 nd:v.Record.Nodup
def kyR (ar rc:VI) (i:Nat):Place:=⟨ar.getD i 0,rc⟩
structure RowP (P:VL) (ar rc r:VI):Prop where
 asc:Asc r
 len:r.length=ar.length
 to:∀y∈r,0<=y/\∃u∈ar,P[y.toNat]? =some ⟨u,rc⟩
 has:∀u∈ar,∃y∈r,0<=y/\P[y.toNat]? =some ⟨u,rc⟩
theorem RowP.mono {P P':VL}{ar rc r:VI}(h:RowP P ar rc r) (hp:∀(i:Nat) v,P[i]? =some v->P'[i]? =some v):RowP P' ar rc r:=
 ⟨h.asc,h.len,λe g=>by
  obtain⟨a,d,b,c⟩:=h.to e g
  exact⟨a,d,b,hp _ _ c⟩,λd f=>by
  obtain⟨e,a,b,c⟩:=h.has d f
  exact⟨e,a,b,hp _ _ c⟩⟩
theorem zm {ar rc:VI}{P:VL}(hn:ar.Nodup):(ej (kyR ar rc) P ar.length).2.Nodup:=by
 have c:=nu (kyR ar rc) P ar.length
 generalize ej (kyR ar rc) P ar.length=G at *
 have hrl:=c.rl
 refine Gu.2 λa b i k j g=>?_
 obtain⟨x,d,_,m⟩:=c.at_ a (by omega)
 obtain⟨n,e,_,f⟩:=c.at_ b (by omega)
 rw[ct i]at d
 rw[ct k]at e
 have l:x=n:=by rw[← GS d,← GS e];exact g
 subst l
 rw[m]at f
 have:=congrArg Place.At (GS f)
 simp only[kyR,bR,ct (show a<ar.length by omega),ct (show b<ar.length by omega),Option.getD_some]at this
 exact(Gu.1 hn) a b (by omega) (by omega) j this
theorem Ds {ar rc:VI}{P:VL}{S:VI}(j:Asc S) (hl:S.length=ar.length) (hm:∀d,d∈S↔d∈(ej (kyR ar rc) P ar.length).2):RowP (ej (kyR ar rc) P ar.length).1 ar rc S:=by
 have e:=nu (kyR ar rc) P ar.length
 generalize ej (kyR ar rc) P ar.length=G at *
 have hrl:=e.rl
 have k:∀a,a<ar.length->kyR ar rc a=⟨ar.getD a 0,rc⟩/\ar.getD a 0∈ar:=λa b=>⟨rfl,by
  rw[bR,ct b]
  exact GY b⟩
 refine⟨j,hl,λd m=>?_,λp l=>?_⟩
 .obtain⟨a,b⟩:=Gf ((hm d).1 m)
  have i:=(C7.1 b).1
  obtain⟨x,c,f,g⟩:=e.at_ a (by omega)
  rw[b]at c
  cases c
  obtain⟨n,o⟩:=k a (by omega)
  exact⟨f,_,o,by rw[g,n]⟩
 .obtain⟨a,b⟩:=Gf l
  have i:=(C7.1 b).1
  obtain⟨x,c,f,g⟩:=e.at_ a i
  refine⟨x,(hm x).2 (FI c),f,?_⟩
  rw[g]
  unfold kyR
  rw[bR,b];rfl
structure RecS (a:Arena) (ps:VP) (st:Place) (P:VL) (i:Nat) (O:VI) (N:VV) (Q:VI):Prop where
 nod:P.Nodup
 zero:P[0]? =some st
 il:i<=P.length
 ol:O.length=i
 nl:N.length=i
 ql:Q.length=i
 inn:∀v∈P,VOk a.Owner.length ps.length v
 row:∀(j:Nat) v,j<i->P[j]? =some v->O[j]? =idx a.Owner v.At/\Q[j]? =some (lh ps v.Record v.At)/\∃r ar,N[j]? =some r/\idx a.Next v.At=some ar/\RowP P ar (fN ps v.Record v.At) r
theorem RecS.init {a:Arena}{ps:VP}{st:Place}(h:VOk a.Owner.length ps.length st):RecS a ps st [st] 0 [] [] []:=
 ⟨by simp,rfl,by simp,rfl,rfl,rfl,λv c=>by rw[E7.1 c];exact h,λd v b=>absurd b (Gy d)⟩
theorem RecS.step {a:Arena}{ps:VP}{st:Place}{P:VL}{i:Nat}{O:VI}{N:VV}{Q:VI}(h:RecS a ps st P i O N Q){v:Place}(l:P[i]? =some v){ar:VI}(har:idx a.Next v.At=some ar) (D:∀b∈ar,0<=b/\b<(a.Owner.length:Int)){o:Int}(H:idx a.Owner v.At=some o){S:VI}
 (A:Asc S) (B:S.length=ar.length) (C:∀q,q∈S↔q∈(ej (kyR ar (fN ps v.Record v.At)) P ar.length).2):
 RecS a ps st (ej (kyR ar (fN ps v.Record v.At)) P ar.length).1 (i+1) (O++[o]) (N++[S]) (Q++[lh ps v.Record v.At]):=by
 have z:=Ds A B C
 have d:=nu (kyR ar (fN ps v.Record v.At)) P ar.length
 have m:=h.inn v (FI l)
 have hn:=xY ps v.At m.rl m.rin
 have F:∀x,x<ar.length->VOk a.Owner.length ps.length (kyR ar (fN ps v.Record v.At) x):=λx f=>by
  have hm:ar.getD x 0∈ar:=by
   rw[bR,ct f]
   exact GY f
  obtain⟨K,L⟩:=D _ hm
  exact⟨K,L,hn.1,hn.2,xX ps v.At m.nd⟩
 generalize ej (kyR ar (fN ps v.Record v.At)) P ar.length=G at *
 have M:=(C7.1 l).1
 have h1:=h.ol
 have n:=h.nl
 have p:=h.ql
 have T:=d.len
 refine⟨d.nod h.nod,d.pre 0 _ h.zero,by omega,by simp[h1],by simp[n],by simp[p],λb e=>?_,λc b R e=>?_⟩
 .rcases d.mem b e with hm|⟨x,f,g⟩
  .exact h.inn b hm
  .rw[g];exact F x f
 .by_cases g:c=i
  .subst g
   have k:b=v:=by
    have:=d.pre c v l
    rw[e]at this
    exact GS this
   subst k
   refine⟨by rw[← h1,H];simp,by rw[← p];simp,S,ar,by rw[← n];simp,har,z⟩
  .have E:c<i:=by omega
   have j:P[c]? =some (P[c]'(by omega)):=ct (by omega)
   have k:b=P[c]'(by omega):=by
    have:=d.pre c _ j
    rw[e]at this
    exact GS this
   rw[← k]at j
   obtain⟨s,t,I,r,u,w,y⟩:=h.row c b E j
   exact⟨by rw[Fw (by omega)];exact s,by rw[Fw (by omega)];exact t,I,r,by rw[Fw (by omega)];exact u,w,y.mono d.pre⟩
structure RecG (a:Arena) (ps:VP) (st:Place) (P:VL) (g:Parity):Prop where
 game:RecS a ps st P P.length g.Arena.Owner g.Arena.Next g.Prio
 le:P.length<=256
theorem RecG.ok {a:Arena}{ps:VP}{st:Place}{P:VL}{g:Parity}(h:RecG a ps st P g) (ha:ef a=true) (r:∀l∈a.Owner,inR 2 l=true) (q:∀(i:Nat) row,a.Next[i]? =some row->1<=row.length/\row.length<=16) (hk:ps.length<=4):c8 g=true:=by
 have hr:=h.game
 have h0:=(C7.1 hr.zero).1
 have h1:=hr.ol
 have A:=hr.nl
 have B:=hr.ql
 have C:=h.le
 have k:∀b:Nat,b<P.length->∃v,P[b]? =some v:=λb c=>⟨_,ct c⟩
 refine AU (by omega) (by omega) (by omega) (by omega) (λrow t=>?_) (λl s=>?_) λx w=>?_
 .obtain⟨b,c⟩:=Gf t
  have p:=(C7.1 c).1
  obtain⟨v,d⟩:=k b (by omega)
  obtain⟨_,_,F,ar,o,f,j⟩:=hr.row b v (by omega) d
  rw[c]at o
  cases o
  have m:=(eh f).1
  rw[cN m]at f
  obtain⟨D,E⟩:=q _ _ f
  have hl:=j.len
  refine⟨by omega,by omega,fI.2 ⟨λz y=>?_,j.asc⟩⟩
  obtain⟨H,G,_,u⟩:=j.to z y
  have:=(C7.1 u).1
  omega
 .obtain⟨b,c⟩:=Gf s
  have p:=(C7.1 c).1
  obtain⟨v,d⟩:=k b (by omega)
  obtain⟨e,_⟩:=hr.row b v (by omega) d
  rw[c]at e
  have m:=(eh e.symm).1
  rw[cN m]at e
  exact r l (FI e.symm)
 .obtain⟨b,c⟩:=Gf w
  have p:=(C7.1 c).1
  obtain⟨v,d⟩:=k b (by omega)
  obtain⟨_,n,_⟩:=hr.row b v (by omega) d
  rw[c]at n
  cases n
  exact BR ps v.At (by have:=(hr.inn v (FI d)).rl;omega)
def firstR (k:Nat):VI:=(GO k).map Int.ofNat
theorem vX (k:Nat):(firstR k).Nodup:=List.Pairwise.map _ (λ_ _ b a=>b (Int.ofNat.inj a)) List.nodup_range
theorem zR (row:VI) (v:Int):mR row v=some (decide (v∈row)):=by
 unfold mR
 rw[d9 (f:=mb row v) (r:=true) (xs:=row) (λx=> !(x==v)) rfl (λd x a=>by
  unfold mb
  rw[bT,a,GA]
  cases x==v <;> rfl)]
 by_cases h:v∈row
 .rw[if_neg,decide_eq_true h];rfl
  rw[Gc]
  intro c
  have:=c v h
  simp at this
 .rw[if_pos,decide_eq_false h];rfl
  rw[Gc]
  intro x a
  simp only[Bool.not_eq_true',beq_eq_false_iff_ne,ne_eq]
  exact λb=>h (b ▸ a)
theorem EM (p0 p1:VI):jS p0 p1=some (decide (p0=p1)):=by
 unfold jS
 by_cases h:p0.length=p1.length
 .rw[show((p0.length:Int) !=(p1.length:Int))=false from by rw[h];simp,cond_false]
  rw[zM (f:=gW p0 p1) (r:=false) (λx b=>decide (x=b)) h (λg x b d e=>by
   unfold gW
   rw[bT,bT,d,e,GA,GA]
   by_cases a:x=b
   .subst a;simp
   .have c:(x==b)=false:=by simp[a]
    simp[bne,c,a])]
  rw[qf h]
  cases decide (p0=p1) <;> rfl
 .rw[show((p0.length:Int) !=(p1.length:Int))=true from by simp only[bne_iff_ne,ne_eq];omega,cond_true,decide_eq_false (λa=>h (by rw[a]))]
def qJ (P:VL) (k:Place):Int:=match locR P k with | some a=>(a:Int) | none=> -1
theorem DT (P:VL) (u:Int) (rc:VI):px P u rc=some (qJ P ⟨u,rc⟩):=by
 unfold px
 rw[gE (f:=kI P u rc) (λx=>x.At==u&&x.Record==rc) (λb=>(b:Int)) (xs:=P) (λb x c=>by
  unfold kI
  rw[bT,c,GA]
  by_cases h1:x.At=u
  .rw[show(x.At==u)=true from by simpa using h1,cond_true,GA,EM]
   by_cases a:x.Record=rc
   .rw[decide_eq_true a,show(x.Record==rc)=true from by simpa using a];rfl
   .rw[decide_eq_false a,show(x.Record==rc)=false from by simpa using a];rfl
  .rw[show(x.At==u)=false from by simpa using h1];rfl)]
 unfold qJ locR
 cases P.findIdx? (λx=>x.At==u&&x.Record==rc) <;> rfl
section
variable {ps:VP}{rc:VI}(hr:∀x∈rc,0<=x/\x<(ps.length:Int)) (hl:rc.length<=1000)
include hr hl
theorem Ed (v:Int):kO ps rc v=some (fN ps rc v):=by
 unfold kO
 obtain⟨d,h1,g⟩:=cg (f:=gX ps rc v) (λa (d:VI×VI)=>d=((rc.take a).filter (dc ps v),(rc.take a).filter λb=> !dc ps v b)) rc.length (s:=([],[])) rfl (λa d j hs=>by
  subst hs
  have c:rc[a]? =some rc[a]:=ct j
  generalize rc[a]=x at c
  obtain⟨m,n⟩:=hr x (FI c)
  obtain⟨p,hp,_⟩:=g8 (xs:=ps) m n
  have i:dc ps v x=decide (v∈p.Give):=by unfold dc;rw[hp]
  have k:((rc.take a).filter (dc ps v)).length<=1000:=GQ (GJ ..) (by rw[FE];omega)
  have l:((rc.take a).filter λb=> !dc ps v b).length<=1000:=GQ (GJ ..) (by rw[FE];omega)
  unfold gX
  rw[bT,c,GA,hp,GA,zR,← i,GA,Gv,c]
  simp only[Option.toList_some,List.filter_append]
  cases e:dc ps v x with
  |true=>
   simp only[cond_true,GA]
   rw[app1 (by omega) rfl]
   exact⟨_,rfl,by simp[e]⟩
  |false=>
   simp only[cond_false,GA]
   rw[app1 (by omega) rfl]
   exact⟨_,rfl,by simp[e]⟩)
 rw[h1,g,GA,bV,Gx]
 have k:(rc.filter (dc ps v)).length<=1000:=GQ (GJ ..) hl
 have l:(rc.filter λb=> !dc ps v b).length<=1000:=GQ (GJ ..) hl
 dsimp only
 rw[appL (by omega) rfl];rfl
theorem El (v:Int):kP ps rc v=some (lh ps rc v):=by
 unfold kP
 obtain⟨d,h1,j⟩:=cg (f:=gY ps rc v) (λb (d:Int×Int)=>d=(di (askI ps v) rc b,di (dc ps v) rc b)) rc.length (s:=(-1,-1)) rfl (λb d l hs=>by
  subst hs
  have c:rc[b]? =some rc[b]:=ct l
  generalize rc[b]=x at c
  obtain⟨m,n⟩:=hr x (FI c)
  obtain⟨p,hp,_⟩:=g8 (xs:=ps) m n
  have k:dc ps v x=decide (v∈p.Give):=by unfold dc;rw[hp]
  have ha:askI ps v x=decide (v∈p.Ask):=by unfold askI;rw[hp]
  have e:di (askI ps v) rc (b+1)=bif askI ps v x then(b:Int) else di (askI ps v) rc b:=by
   show(bif (match rc[b]? with | some x=>askI ps v x | none=>false) then(b:Int) else _)=_
   rw[c]
  have i:di (dc ps v) rc (b+1)=bif dc ps v x then(b:Int) else di (dc ps v) rc b:=by
   show(bif (match rc[b]? with | some x=>dc ps v x | none=>false) then(b:Int) else _)=_
   rw[c]
  refine⟨_,?_,rfl⟩
  unfold gY
  simp only[bT,c,GA,hp,zR,← k,← ha]
  rw[e,i]
  cases askI ps v x <;> cases dc ps v x <;> rfl)
 rw[h1,j,GA,bV]
 have a:=jc (askI ps v) rc rc.length
 have g:=jc (dc ps v) rc rc.length
 unfold lh
 dsimp only
 generalize di (askI ps v) rc rc.length=x at *
 generalize di (dc ps v) rc rc.length=y at *
 rw[wr' (z:=2 * x) (by omega) (by omega),wr' (z:=2 * x+1) (by omega) (by omega),wr' (z:=2 * y) (by omega) (by omega),wr' (z:=2 * y+2) (by omega) (by omega)]
 cases decide (x<0) <;> cases decide (y<0) <;> cases decide (y<x) <;> rfl
end
theorem Cd {xs:VI}(hn:xs.Nodup) (hl:xs.length<=1000):∃o,mc xs=some o/\Asc o/\o.length=xs.length/\∀c,c∈o↔c∈xs:=by
 unfold mc
 obtain⟨a,h1,z,A,B⟩:=cg (f:=ji xs) (λl (a:VI)=>Asc a/\a.length=l/\∀c,c∈a↔c∈xs.take l) xs.length (s:=[]) ⟨List.Pairwise.nil,rfl,λc=>by simp⟩ (λl a v ⟨p,y,u⟩=>by
  have n:xs[l]? =some xs[l]:=ct v
  have P:=n
  generalize hxe:xs[l]=x at n
  have q:x∉a:=λhm=>by
   obtain⟨b,i⟩:=Gf ((u x).1 hm)
   have C:=(C7.1 i).1
   rw[FE]at C
   rw[List.getElem?_take,if_pos (by omega),ct (by omega)]at i
   have:=(Gu.1 hn) b l (by omega) v (by omega)
   exact this ((GS i).trans hxe.symm)
  obtain⟨K,N,O⟩:=cZ (f:=jk xs (l:Int) a) (λw (k:Int)=>∃m:Nat,k=(m:Int)/\m+w=a.length/\∀(b:Nat) d,m<=b->a[b]? =some d->x<d) (λ_=>False) (λk=>∃m:Nat,k=(m:Int)/\m<=a.length/\(∀(b:Nat) d,m<=b->a[b]? =some d->x<d)/\∀(b:Nat) d,b<m->a[b]? =some d->d<x) a.length (λw k ⟨m,e,hm,i⟩=>by
   subst e
   unfold jk
   by_cases h0:0<m
   .have j:a[m-1]? =some (a[m-1]'(by omega)):=ct (by omega)
    generalize a[m-1]'(by omega)=d at j
    have E:FW .i64 ((m:Int)-1)=((m-1:Nat):Int):=by rw[wr' (by omega) (by omega)];omega
    rw[decide_eq_true (show(0:Int)<(m:Int) by omega),cond_true,E,bT,j,GA,bT,n,GA,GA]
    by_cases t:x<d
    .rw[decide_eq_true t,cond_true]
     refine⟨_,rfl,by omega,m-1,rfl,by omega,λb c s g=>?_⟩
     by_cases e:b=m-1
     .subst e
      rw[j]at g
      cases g
      exact t
     .exact i b c (by omega) g
    .rw[decide_eq_false t,cond_false]
     refine⟨_,rfl,m,rfl,by omega,i,λb c s g=>?_⟩
     have F:d<x:=by
      have:d≠x:=λe=>q (e ▸ FI j)
      omega
     by_cases e:b=m-1
     .subst e
      rw[j]at g
      cases g
      exact F
     .have:=vR p g j (by omega)
      omega
   .have D:m=0:=by omega
    subst D
    rw[decide_eq_false (show ¬(0:Int)<((0:Nat):Int) by omega),cond_false,GA,cond_false]
    exact⟨_,rfl,0,rfl,by omega,i,λb c s _=>absurd s (Gy b)⟩) (2 ^ 64) 0 (a.length:Int) (by omega) ⟨a.length,rfl,by omega,λb d i j=>by
    have:=(C7.1 j).1
    omega⟩ (by omega)
  match K,O with
  |.inr k,⟨m,e,G,H,I⟩=>
   subst e
   unfold ji
   have L:subS a 0 (m:Int)=some (a.take m):=by
    unfold subS
    rw[if_pos ⟨by omega,by omega,by omega⟩]
    simp
   have M:subS a (m:Int) (a.length:Int)=some (a.drop m):=by
    unfold subS
    rw[if_pos ⟨by omega,by omega,by omega⟩]
    simp
   have Q:(a.take m).length<=1000:=by rw[FE];omega
   have R:(a.drop m).length<=1000:=by rw[List.length_drop];omega
   rw[N,GA,bV,L,GA,appL (by simp;omega) rfl,GA,bT,n,GA,G0,app1 (by omega) rfl,GA,M,GA,appL (by rw[C9];simp only[E1,Gh];omega) rfl,GA]
   have r:(a.take m++[x])++a.drop m=ins x a:=by
    rw[Fo]
    exact zT p q G I (λc g=>H m c (Fg _) g)
   refine⟨_,rfl,?_,?_,λc=>?_⟩
   .rw[r];exact sZ p
   .rw[r,y4 q p,y]
   .rw[r,ta q,u,Gv,n]
    simp only[Option.toList_some,E4,E7]
    constructor
    .rintro(h|h)
     .exact .inr h
     .exact .inl h
    .rintro(h|h)
     .exact .inr h
     .exact .inl h)
 rw[h1,GA,bV]
 exact⟨a,rfl,z,A,λc=>by rw[B,Gx]⟩
theorem tV {P:VL}{k:Place}:(qJ P k<0->addR P k=P++[k]/\atR P k=(P.length:Int))/\(¬qJ P k<0->addR P k=P/\atR P k=qJ P k):=by
 unfold qJ addR atR
 cases locR P k with
 |none=>exact⟨λ_=>⟨rfl,rfl⟩,λh=>absurd (by show(-1:Int)<0;omega) h⟩
 |some a=>exact⟨λh=>absurd h (by show ¬((a:Int)<0);omega),λ_=>⟨rfl,rfl⟩⟩
theorem AY (a:Nat->Place) (K:VL):∀{i j:Nat},i<=j->(ej a K i).1.length<=(ej a K j).1.length:=by
 intro i j h
 induction h with
 |refl=>exact Fg _
 |step h b=>
  refine GQ b ?_
  show _<=(addR _ _).length
  exact(xo _ _).1
theorem conR (l:VI) (v:Int):ca l v=some (decide (v∈l)):=by
 rw[cP]
 congr 1
 rw[F6]
 simp
theorem C0 (ps:VP) (rc:VI) (v:Int):kr ps rc v=kO ps rc v:=by
 have h:ij ps rc v=gX ps rc v:=by
  funext j s
  unfold ij gX
  cases idx rc j with
  |none=>rfl
  |some x=>
   simp only[GA]
   cases idx ps x with
   |none=>rfl
   |some p=>simp only[GA,zR,conR]
 unfold kr kO
 rw[h]
theorem De (ps:VP) (rc:VI) (v:Int):kx ps rc v=kP ps rc v:=by
 have h:ik ps rc v=gY ps rc v:=by
  funext j s
  unfold ik gY
  cases idx rc j with
  |none=>rfl
  |some x=>
   simp only[GA]
   cases idx ps x with
   |none=>rfl
   |some p=>simp only[GA,zR,conR]
 unfold kx kP
 rw[h]
theorem ze (P:VL) (u:Int) (rc:VI):pd P u rc=some (qJ P ⟨u,rc⟩):=by
 unfold pd
 rw[ek (λx=>x.At==u&&x.Record==rc) (λx _=>by
  unfold lS
  by_cases h1:x.At=u
  .rw[show(x.At==u)=true from by simpa using h1,cond_true,eR]
   by_cases a:x.Record=rc
   .rw[decide_eq_true a,show(x.Record==rc)=true from by simpa using a];rfl
   .rw[decide_eq_false a,show(x.Record==rc)=false from by simpa using a];rfl
  .rw[show(x.At==u)=false from by simpa using h1];rfl)]
 rfl
def noRec:Parity×VL×Bool:=(⟨⟨[],[]⟩,[]⟩,[],false)
section
variable {a:Arena}{v:Place}{ar rc:VI}{P:VL}(har:idx a.Next v.At=some ar) (hal:ar.length<=16) (hrl:rc.length<=4)
include har hal hrl
theorem EK (r:P.length<=256):∃i,ci (ie a v rc) (2 ^ 64) (P,[],0)=some i/\(match i with
 |.inl j=>j=noRec/\256<(ej (kyR ar rc) P ar.length).1.length
 |.inr c=>c.1=(ej (kyR ar rc) P ar.length).1/\c.2.1=(ej (kyR ar rc) P ar.length).2/\(ej (kyR ar rc) P ar.length).1.length<=256):=by
 obtain⟨i,y,z⟩:=cZ (f:=ie a v rc) (λb (c:VL×VI×Int)=>c=((ej (kyR ar rc) P b).1,(ej (kyR ar rc) P b).2,(b:Int))/\b<=ar.length/\(ej (kyR ar rc) P b).1.length<=256) (λj=>j=noRec/\256<(ej (kyR ar rc) P ar.length).1.length)
  (λc=>c.1=(ej (kyR ar rc) P ar.length).1/\c.2.1=(ej (kyR ar rc) P ar.length).2/\(ej (kyR ar rc) P ar.length).1.length<=256) ar.length (λb c ⟨q,A,p⟩=>by
  subst q
  have x:=nu (kyR ar rc) P b
  have B:=x.rl
  unfold ie
  dsimp only
  rw[har,GA]
  by_cases s:b<ar.length
  .have n:ar[b]? =some ar[b]:=ct s
   have m:kyR ar rc b=⟨ar[b],rc⟩:=by unfold kyR;rw[bR,n];rfl
   generalize ar[b]=u at n m
   obtain⟨t,w⟩:=tV (P:=(ej (kyR ar rc) P b).1) (k:=kyR ar rc b)
   have e:ej (kyR ar rc) P (b+1)=(addR (ej (kyR ar rc) P b).1 (kyR ar rc b),(ej (kyR ar rc) P b).2++[atR (ej (kyR ar rc) P b).1 (kyR ar rc b)]):=rfl
   have hm:=AY (kyR ar rc) P (show b+1<=ar.length by omega)
   rw[decide_eq_true (show(b:Int)<(ar.length:Int) by omega),cond_true,GA,bT,n,GA,DT,← m,GA]
   by_cases g:qJ (ej (kyR ar rc) P b).1 (kyR ar rc b)<0
   .obtain⟨d,l⟩:=t g
    rw[e,d]at hm
    simp only[C9,E1,Gh]at hm
    by_cases o:(256:Int)<=((ej (kyR ar rc) P b).1.length:Int)
    .rw[decide_eq_true g,cond_true,decide_eq_true o,cond_true]
     exact⟨_,rfl,rfl,by omega⟩
    .rw[decide_eq_true g,cond_true,decide_eq_false o,cond_false,appL (by simp;omega) rfl,GA,G0,app1 (by omega) rfl,GA,GA,bV]
     dsimp only
     rw[app1 (by omega) rfl,GA,wr' (by omega) (by omega)]
     refine⟨_,rfl,by omega,?_,by omega,?_⟩
     .rw[e,d,l,← m];rfl
     .rw[e,d,C9];simp only[E1,Gh];omega
   .obtain⟨d,l⟩:=w g
    rw[decide_eq_false g,cond_false,GA,bV]
    dsimp only
    rw[app1 (by omega) rfl,GA,wr' (by omega) (by omega)]
    refine⟨_,rfl,by omega,?_,by omega,?_⟩
    .rw[e,d,l];rfl
    .rw[e,d];exact p
  .have:b=ar.length:=by omega
   subst this
   rw[decide_eq_false (show ¬((ar.length:Nat):Int)<(ar.length:Int) by omega),cond_false]
   exact⟨_,rfl,rfl,rfl,p⟩) (2 ^ 64) 0 (P,[],0) (by omega) ⟨rfl,Nat.zero_le _,r⟩ (by omega)
 exact⟨i,y,by
  match i,z with
  |.inl j,h=>exact h
  |.inr c,h=>exact h⟩
omit har in
theorem D3 (q:P.length<=1000):cntM (cu rc ar) ar.length 0 (P,[])=some (.inr (ej (kyR ar rc) P ar.length)):=by
 obtain⟨c,h1,m⟩:=cg (f:=cu rc ar) (λa c=>c=ej (kyR ar rc) P a) ar.length (s:=(P,[])) rfl (λa c n l=>by
  subst l
  have j:=nu (kyR ar rc) P a
  have s:=j.rl
  have r:=j.le
  have i:ar[a]? =some ar[a]:=ct n
  have g:kyR ar rc a=⟨ar[a],rc⟩:=by unfold kyR;rw[bR,i];rfl
  generalize ar[a]=u at i g
  obtain⟨o,p⟩:=tV (P:=(ej (kyR ar rc) P a).1) (k:=kyR ar rc a)
  refine⟨_,?_,rfl⟩
  unfold cu
  rw[bT,i,GA,ze,← g,GA]
  show _=some (Sum.inr (Sum.inr (addR (ej (kyR ar rc) P a).1 (kyR ar rc a),(ej (kyR ar rc) P a).2++[atR (ej (kyR ar rc) P a).1 (kyR ar rc a)])))
  by_cases b:qJ (ej (kyR ar rc) P a).1 (kyR ar rc a)<0
  .obtain⟨d,e⟩:=o b
   rw[decide_eq_true b,cond_true,appL (by simp;omega) rfl,GA,G0,app1 (by omega) rfl,GA,GA]
   dsimp only
   rw[app1 (by omega) rfl,GA,d,e,← g]
  .obtain⟨d,e⟩:=p b
   rw[decide_eq_false b,cond_false,GA]
   dsimp only
   rw[app1 (by omega) rfl,GA,d,e])
 rw[h1,m]
end
theorem vQ {a:Arena}(ha:ef a=true):c8 ⟨a,FK a.Owner.length 0⟩=true:=by
 unfold c8
 dsimp only
 rw[ha,FD,beq_self_eq_true,F8,F8,Gc]
 intro x b
 rw[(List.mem_replicate.1 b).2];rfl
theorem vj {a:Arena}(ha:ef a=true):1<=a.Owner.length/\a.Owner.length<=256/\(∀(i:Nat) row,a.Next[i]? =some row->1<=row.length/\row.length<=16)/\(∀b∈a.Owner,inR 2 b=true) /\
 ∀v:Int,0<=v->v<(a.Owner.length:Int)->∃ar b,idx a.Next v=some ar/\idx a.Owner v=some b/\1<=ar.length/\ar.length<=16/\Asc ar/\∀g∈ar,0<=g/\g<(a.Owner.length:Int):=by
 have hp:=vQ ha
 obtain⟨h1,e,j,_,c⟩:=dZ hp
 dsimp only at h1 e j c
 refine⟨h1,e,λi row hr=>⟨(c i row hr).1,(c i row hr).2.1⟩,(uc hp).1,λv d q=>?_⟩
 obtain⟨ar,har,_⟩:=g8 (xs:=a.Next) d (by omega)
 obtain⟨b,k,_⟩:=g8 (xs:=a.Owner) d q
 have f:=har
 rw[cN d]at f
 obtain⟨l,m,n⟩:=c _ ar f
 obtain⟨o,p⟩:=fI.1 n
 exact⟨ar,b,har,k,l,m,p,o⟩
def ManyP (n k:Nat):Prop:=∃P:VL,256<P.length/\P.Nodup/\∀v∈P,VOk n k v
section
variable {a:Arena}{ps:VP}{st:Place}(ha:ef a=true) (hk:ps.length<=4)
include ha hk
theorem BT (M:VOk a.Owner.length ps.length st):(ci (fG a ps) (2 ^ 64) ([st],0,[],[],[])=some (.inl noRec)/\ci (cj a ps) (2 ^ 64) ([st],0,[],[],[])=some (.inl noRec)/\ManyP a.Owner.length ps.length) \/
 ∃b:VL×Int×VI×VV×VI,ci (fG a ps) (2 ^ 64) ([st],0,[],[],[])=some (.inr b)/\ci (cj a ps) (2 ^ 64) ([st],0,[],[],[])=some (.inr b)/\RecG a ps st b.1 ⟨⟨b.2.2.1,b.2.2.2.1⟩,b.2.2.2.2⟩:=by
 obtain⟨_,_,_,_,D⟩:=vj ha
 obtain⟨R,i,r,s,j⟩:=sb (f:=fG a ps) (g:=cj a ps) (λb i=>b=i/\∃c:Nat,b.2.1=(c:Int)/\RecS a ps st b.1 c b.2.2.1 b.2.2.2.1 b.2.2.2.2/\b.1.length<=256) (λb=>300-b.2.1.toNat) (λo z=>o=noRec/\z=noRec/\ManyP a.Owner.length ps.length)
  (λb i=>b=i/\RecG a ps st b.1 ⟨⟨b.2.2.1,b.2.2.2.1⟩,b.2.2.2.2⟩) (λb i ⟨m,c,k,d,hl⟩=>by
  subst m
  obtain⟨P,Z,O,N,Q⟩:=b
  dsimp only at k d hl
  subst k
  unfold fG cj
  dsimp only
  by_cases H:c<P.length
  .have l:P[c]? =some P[c]:=ct H
   generalize P[c]=v at l
   have e:=d.inn v (FI l)
   obtain⟨ar,ah,har,w,ag,y,F,G⟩:=D v.At e.a0 e.a1
   have af:=e.rl
   have t:=Ed (ps:=ps) (rc:=v.Record) e.rin (by omega) v.At
   have x:=El (ps:=ps) (rc:=v.Record) e.rin (by omega) v.At
   have ae:=xY ps v.At e.rl e.rin
   obtain⟨S,X,Y⟩:=EK (a:=a) (v:=v) (ar:=ar) (rc:=fN ps v.Record v.At) (P:=P) har y (by omega) hl
   have k:=D3 (ar:=ar) (rc:=fN ps v.Record v.At) (P:=P) y (by omega) (by omega)
   have u:=zm (ar:=ar) (rc:=fN ps v.Record v.At) (P:=P) (iz F)
   have U:=nu (kyR ar (fN ps v.Record v.At)) P ar.length
   have hrl:=U.rl
   obtain⟨C,V,A,W,B⟩:=Cd u (by omega)
   have L:cr (ej (kyR ar (fN ps v.Record v.At)) P ar.length).2=some C:=by
    unfold cr
    rw[if_pos ⟨by omega,by omega⟩]
    exact congrArg some (mT (uC u) A λZ=>by rw[List.mem_mergeSort,B])
   have n:=d.step l har G w A (by rw[W,hrl]) B
   have aa:=d.ol
   have ab:=d.nl
   have ac:=d.ql
   have I:kz v ps=some (fN ps v.Record v.At):=by
    unfold kz
    rw[C0,t];rfl
   have K:kA v ps=some (lh ps v.Record v.At):=by
    unfold kA
    rw[De,x];rfl
   rw[decide_eq_true (show(c:Int)<(P.length:Int) by omega),cond_true,cond_true,bT,l,GA,GA,t,GA,X,GA,I,GA,har,GA,k,GA,bV]
   match S,Y with
   |.inl o,⟨p,q⟩=>
    subst p
    rw[decide_eq_true (show(256:Int)<((ej (kyR ar (fN ps v.Record v.At)) P ar.length).1.length:Int) by omega),cond_true]
    exact⟨_,_,rfl,rfl,rfl,rfl,_,q,n.nod,n.inn⟩
   |.inr b,⟨p,q,T⟩=>
    rw[bV,p,q,V,w,GA,decide_eq_false (show ¬(256:Int)<((ej (kyR ar (fN ps v.Record v.At)) P ar.length).1.length:Int) by omega),cond_false,L,K]
    simp only[GA]
    unfold ni
    dsimp only
    rw[app1 (xs:=O) (by omega) rfl,app1 (xs:=N) (by omega) rfl,x]
    simp only[GA]
    rw[app1 (xs:=Q) (by omega) rfl,wr' (by omega) (by omega)]
    refine⟨_,_,rfl,rfl,⟨rfl,c+1,by dsimp only;omega,n,T⟩,?_⟩
    dsimp only
    omega
  .rw[decide_eq_false (show ¬(c:Int)<(P.length:Int) by omega),cond_false,cond_false]
   have ad:=d.il
   have:c=P.length:=by omega
   subst this
   exact⟨_,_,rfl,rfl,rfl,d,hl⟩) (2 ^ 64) (2 ^ 64) ([st],0,[],[],[]) ([st],0,[],[],[]) (by dsimp only;omega) (by dsimp only;omega) ⟨rfl,0,rfl,RecS.init M,by simp⟩
 match R,i,j with
 |.inl o,.inl z,j=>
  rw[j.1]at r
  rw[j.2.1]at s
  exact .inl ⟨r,s,j.2.2⟩
 |.inr b,.inr i,⟨m,E⟩=>
  subst m
  exact .inr ⟨b,r,s,E⟩
end
theorem CE (k:Nat):cntM fF k 0 []=some (.inr (firstR k))\/1000<k:=by
 by_cases hk:1000<k
 .exact .inr hk
 .obtain⟨a,h1,d⟩:=cg (f:=fF) (λb a=>a=firstR b) k (s:=[]) rfl (λb a e c=>by
   subst c
   unfold fF
   rw[app1 (by unfold firstR;rw[Gg,GK];omega) rfl]
   exact⟨_,rfl,by unfold firstR;rw[GP,FF];rfl⟩)
  exact .inl (by rw[h1,d])
theorem uH {a:Arena}{ps:VP}{st:Int}(ha:ef a=true) (hp:pairsOk ps (a.Owner.length:Int)=true) (hb:∀x∈ps,x.Ask.length<=1000000000/\x.Give.length<=1000000000) (h0:0<=st) (h1:st<(a.Owner.length:Int)):
 (iv a ps st=some noRec/\ed a ps st=some noRec/\ManyP a.Owner.length ps.length)\/∃P g,RecG a ps ⟨st,firstR ps.length⟩ P g/\c8 g=true/\iv a ps st=some (g,P,true)/\ed a ps st=some (g,P,true):=by
 obtain⟨r,s,n,o,_⟩:=vj ha
 have hk:ps.length<=4:=by
  unfold pairsOk at hp
  rw[ra,decide_eq_true_eq]at hp
  omega
 have f:cntM fF ps.length 0 []=some (.inr (firstR ps.length)):=(CE ps.length).resolve_right (by omega)
 have j:cntM ms ps.length 0 []=some (.inr (firstR ps.length)):=f
 have l:VOk a.Owner.length ps.length ⟨st,firstR ps.length⟩:=⟨h0,h1,by unfold firstR;rw[Gg,GK],λx i=>by
  unfold firstR at i
  obtain⟨m,k,d⟩:=FH.1 i
  have:=GM.1 k
  have d:(m:Int)=x:=d
  omega,vX _⟩
 unfold iv ed cW
 rw[qS,ha,GA,F7,cond_false,pQ (by omega) (by omega) hb,hp,GA,GA,F7,cond_false,d8,wr' (by omega) (by omega),decide_eq_true h0,decide_eq_true (show st<=(a.Owner.length:Int)-1 by omega),Bool.and_self,GA,GA,F7,cond_false,f,j,GA,GA,bV,bV]
 rcases BT ha hk l with ⟨b,c,q⟩|⟨p,b,c,e⟩
 .left
  rw[b,c]
  exact⟨rfl,rfl,q⟩
 .right
  rw[b,c]
  exact⟨p.1,_,e,e.ok ha o n hk,rfl,rfl⟩
theorem qn {a:VI}{j:Nat}(h:j<a.length):a.toArray[j]! =a[j]:=by
 rw[getElem!_pos _ j (by simpa using h)]
 simp
theorem qj {b:VI}(h:b.Pairwise (·<=·)):∀m:Nat,m<=b.length->Asc (Lib.compactUpTo b.toArray m)/\∀f,f∈Lib.compactUpTo b.toArray m↔∃a:Nat,a<m/\b[a]? =some f
 |0,_=>⟨by simp[Lib.compactUpTo,Asc],λf=>by simp[Lib.compactUpTo]⟩
 |m+1,hm=>by
  obtain⟨l,i⟩:=qj h m (by omega)
  have q:∀(e a:Nat) (o:e<b.length) (p:a<b.length),e<=a->b[e]<=b[a]:=λe a o p u=>by
   rcases Nat.lt_or_ge e a with n|n
   .exact(Gu.1 h) e a o p n
   .have:e=a:=by omega
    subst this
    exact Int.le_refl _
  rw[Lib.compactUpTo_succ,qn (show m<b.length by omega)]
  have j:b[m]? =some b[m]:=ct (by omega)
  cases hk:Lib.keeps b.toArray m with
  |true=>
   rw[if_pos rfl]
   refine⟨List.pairwise_append.2 ⟨l,List.pairwise_singleton ..,λx r z t=>?_⟩,λf=>?_⟩
   .rw[E7.1 t]
    obtain⟨a,g,c⟩:=(i x).1 r
    rw[ct (show a<b.length by omega)]at c
    have r:=GS c
    have v:b[m]≠b[m-1]'(by omega):=λd=>by
     unfold Lib.keeps at hk
     rw[decide_eq_true_eq,qn (show m<b.length by omega),qn (show m-1<b.length by omega)]at hk
     rcases hk with hk|hk
     .omega
     .exact hk d
    have w:=q a (m-1) (by omega) (by omega) (by omega)
    have y:=q (m-1) m (by omega) (by omega) (by omega)
    omega
   .rw[E4,E7,i]
    constructor
    .rintro(⟨a,g,c⟩|rfl)
     .exact⟨a,by omega,c⟩
     .exact⟨m,by omega,j⟩
    .rintro⟨a,g,c⟩
     by_cases d:a=m
     .subst d
      rw[j]at c
      exact .inr (GS c).symm
     .exact .inl ⟨a,by omega,c⟩
  |false=>
   rw[if_neg (by simp),List.append_nil]
   refine⟨l,λf=>?_⟩
   rw[i]
   constructor
   .rintro⟨a,g,c⟩
    exact⟨a,by omega,c⟩
   .rintro⟨a,g,c⟩
    by_cases d:a=m
    .subst d
     have k:¬(a=0\/b.toArray[a]!≠b.toArray[a-1]!):=λs=>by
      unfold Lib.keeps at hk
      rw[decide_eq_true s]at hk
      cases hk
     rw[qn (show a<b.length by omega),qn (show a-1<b.length by omega)]at k
     have h0:a≠0:=λd=>k (.inl d)
     have h1:b[a]=b[a-1]'(by omega):=F9 λd=>k (.inr d)
     refine⟨a-1,by omega,?_⟩
     rw[ct (show a-1<b.length by omega),← h1,← j,c]
    .exact⟨a,by omega,c⟩
theorem xz {b:VI}(h:b.Pairwise (·<=·)):Asc (Lib.compact b)/\∀c,c∈Lib.compact b↔c∈b:=by
 obtain⟨a,f⟩:=qj h b.length (Fg _)
 refine⟨a,λc=>?_⟩
 unfold Lib.compact
 rw[f]
 constructor
 .rintro⟨e,_,h⟩;exact FI h
 .intro g
  obtain⟨e,d⟩:=Gf g
  exact⟨e,(C7.1 d).1,d⟩
theorem um {p:Sig}(hs:sigOk p=true){x o:Int}(e:0<=x) (f:x<pw p.In) (a:0<=o) (d:o<pw p.Out):nE p x o=some (o * pw p.In+x):=by
 have j:=iD p.In
 have k:=iD p.Out
 obtain⟨b,c⟩:=eQ hs
 have g:0<=o * pw p.In:=Int.mul_nonneg a (by omega)
 have i:o * pw p.In<=4 * 4:=Int.mul_le_mul (by omega) (by omega) (by omega) (by omega)
 unfold nE
 simp only[iw,hs,GA,F7,cond_false,jU b,jU c]
 rw[wr' (z:=pw p.In-1) (by omega) (by omega),wr' (z:=pw p.Out-1) (by omega) (by omega),wr' (z:=o * pw p.In) (by omega) (by omega),wr' (by omega) (by omega)]
 simp only[d8,zS,GA,gQ.2 ⟨e,f⟩,gQ.2 ⟨a,d⟩,F7,cond_false]
theorem dX {p:Sig}(hs:sigOk p=true):dz p=some (pw p.In):=by
 obtain⟨a,_⟩:=eQ hs
 unfold dz
 rw[(nf a).1,GA,(nf a).2]
theorem p6:∀{xs ys:VI},xs.Nodup->(∀x∈xs,x∈ys)->xs.length<=ys.length
 | [],_,_,_=>Nat.zero_le _
 |x::xs,ys,hn,h=>by
  obtain⟨h1,d⟩:=List.nodup_cons.1 hn
  have a:=h x (Gi ..)
  have:=p6 (ys:=ys.erase x) d λe b=>(List.mem_erase_of_ne (λc=>h1 (by rw[← c];exact b))).2 (h e (List.mem_cons_of_mem _ b))
  have f:=GZ a
  rw[List.length_erase_of_mem a]at this
  simp only[E1]
  omega
theorem DS {m q b i d:Nat}(hi:i<m) (g:d<m) (h:q * m+i=b * m+d):q=b/\i=d:=by
 have e:∀{a c:Nat},a<c->a * m+m<=c * m:=λ{a c} h=>by
  have:=Nat.mul_le_mul_right m (show a+1<=c by omega)
  rwa [Nat.add_mul,Nat.one_mul]at this
 by_cases h1:q<b
 .have:=e h1;omega
 .by_cases f:b<q
  .have:=e f;omega
  .have:q=b:=by omega
   subst this
   exact⟨rfl,by omega⟩
theorem tx {n m q i:Nat}(a:q<n) (hi:i<m):q * m+i<n * m:=by
 have:=Nat.mul_le_mul_right m (show q+1<=n by omega)
 rw[Nat.add_mul,Nat.one_mul]at this
 omega
def SuccR (d:Det) (m k q i:Nat) (r:VI):Prop:=Asc r/\∀b,b∈r↔∃a:Nat,a<k/\b=tab d.Next q ((a * m+i:Nat):Int)
theorem SuccR.uniq {d:Det}{m k q i:Nat}{r b:VI}(h:SuccR d m k q i r) (a:SuccR d m k q i b):r=b:=mT h.1 a.1 λc=>by rw[h.2,a.2]
def rowQ (n m q:Nat):VI:=(GO m).map λa=>((n+q * m+a:Nat):Int)
structure ConA (d:Det) (n m k:Nat) (A:Arena):Prop where
 ol:A.Owner=FK n 1++FK (n * m) 0
 nl:A.Next.length=n+n * m
 r1:∀q:Nat,q<n->A.Next[q]? =some (rowQ n m q)
 r0:∀q i:Nat,q<n->i<m->∃r,A.Next[n+(q * m+i)]? =some r/\SuccR d m k q i r
section
variable {d:Det}{n m k:Nat}(hn:n<=48) (hn1:1<=n) (hm1:1<=m) (hm:m<=4) (hk1:1<=k) (hk:k<=4) (hd:d.Next.length=n) (hD:∀row∈d.Next,RowIn (n:Int) ((m * k:Nat):Int) row)
include hn hn1 hm1 hm hk1 hk hd hD
omit hn hn1 hk1 hk in
theorem qm {q i o:Nat}(c:q<n) (hi:i<m) (a:o<k):∃row,idx d.Next (q:Int)=some row/\idx row ((o * m+i:Nat):Int)=some (tab d.Next q ((o * m+i:Nat):Int))/\0<=tab d.Next q ((o * m+i:Nat):Int)/\tab d.Next q ((o * m+i:Nat):Int)<(n:Int):=by
 have h1:=tx (n:=k) a hi
 have b:k * m=m * k:=Nat.mul_comm _ _
 exact r8 hD (by omega) (by omega) (by omega) (by omega)
theorem DR {A:Arena}(h:ConA d n m k A):ef A=true:=by
 have E:n * m<=48 * 4:=G2 hn hm
 have F:A.Owner.length=n+n * m:=by rw[h.ol];simp
 have D:=h.nl
 unfold ef
 simp only[ra,decide_eq_true_eq,beq_iff_eq]
 refine⟨⟨⟨by omega,by omega⟩,by omega⟩,?_⟩
 rw[Gc]
 rintro⟨row,b⟩ c
 have c:=List.mem_zipIdx_iff_getElem?.1 c
 dsimp only at c ⊢
 have B:=(C7.1 c).1
 unfold vertOk
 by_cases i:b<n
 .have e:A.Owner[b]? =some 1:=by
   rw[h.ol,Fw (by simpa using i),GH,if_pos i]
  rw[h.r1 b i]at c
  cases c
  have hl:(rowQ n m b).length=m:=by unfold rowQ;rw[Gg,GK]
  have hs:dj (A.Owner.length:Int) (rowQ n m b)=true:=by
   refine fI.2 ⟨λx c=>?_,?_⟩
   .unfold rowQ at c
    obtain⟨G,g,f⟩:=FH.1 c
    have:=GM.1 g
    have:=tx (n:=n) (m:=m) i this
    omega
   .unfold rowQ
    refine List.pairwise_map.2 (List.Pairwise.imp (λ{a o} y=>?_) List.pairwise_lt_range)
    omega
  rw[e,hs,hl]
  simp only[Bool.and_true,ra,decide_eq_true_eq]
  exact⟨⟨by decide,by omega⟩,by omega⟩
 .have p:b-n<n * m:=by omega
  have q:(b-n) / m<n:=(Nat.div_lt_iff_lt_mul (by omega)).2 p
  have g:(b-n) % m<m:=Nat.mod_lt _ (by omega)
  have f:(b-n) / m * m+(b-n) % m=b-n:=by rw[Nat.mul_comm];exact Nat.div_add_mod _ _
  obtain⟨H,r,s,l⟩:=h.r0 _ _ q g
  rw[f,show n+(b-n)=b by omega,c]at r
  cases r
  have e:A.Owner[b]? =some 0:=by
   rw[h.ol,Fx (by simp;omega),FD,GH,if_pos p]
  have u:∀x∈row,0<=x/\x<(n:Int):=λx c=>by
   obtain⟨j,e,f⟩:=(l x).1 c
   obtain⟨_,_,_,a,o⟩:=qm hm1 hm hd hD q g e
   rw[f];exact⟨a,o⟩
  have hs:dj (A.Owner.length:Int) row=true:=fI.2 ⟨λx c=>by have:=u x c;omega,s⟩
  have C:1<=row.length:=GZ ((l _).2 ⟨0,by omega,rfl⟩)
  have z:row.length<=k:=by
   -- each is one of k
   have t:=p6 (ys:=(GO k).map λj=>tab d.Next ((b-n) / m:Nat) ((j * m+(b-n) % m:Nat):Int)) (iz s) λw v=>by
    obtain⟨j,e,f⟩:=(l w).1 v
    exact FH.2 ⟨j,GM.2 e,f.symm⟩
   rwa [Gg,GK]at t
  rw[e,hs]
  simp only[Bool.and_true,ra,decide_eq_true_eq]
  exact⟨⟨by decide,by omega⟩,by omega⟩
end
theorem yo {p:Sig}(hs:sigOk p=true):me p=some (pw p.In):=by
 unfold me
 rw[jU (eQ hs).1];rfl
section
variable {p:Sig}{d:Det}(hs:sigOk p=true){n m k:Nat}(hn:n<=48) (hn1:1<=n) (hm:pw p.In=(m:Int)) (hk:pw p.Out=(k:Int)) (hd:d.Next.length=n) (hD:∀row∈d.Next,RowIn (n:Int) ((m * k:Nat):Int) row)
include hs hn hm hk hd hD
omit hn in
theorem Dv {q i:Nat}(z:q<n) (hi:i<m):∃t,nO p d q i=some t/\SuccR d m k q i t:=by
 have L:=iD p.In
 have K:=iD p.Out
 unfold nO
 obtain⟨b,F,G⟩:=cZ (f:=jY p d q i) (λa (c:VI×Int)=>c.2=(a:Int)/\a<=k/\Asc c.1/\c.1.length<=a/\∀e,e∈c.1↔∃b:Nat,b<a/\e=tab d.Next q ((b * m+i:Nat):Int)) (λ_=>False) (λc=>SuccR d m k q i c.1) k (λa c ⟨r,I,j,w,l⟩=>by
  obtain⟨xs,b⟩:=c
  dsimp only at r j w l
  subst r
  unfold jY
  rw[jU (eQ hs).2,GA,hk]
  dsimp only
  by_cases y:a<k
  .obtain⟨row,C,D,_⟩:=qm (d:=d) (k:=k) (by omega) (by omega) hd hD z hi y
   obtain⟨R,E,u,v⟩:=Bt j (tab d.Next q ((a * m+i:Nat):Int)) (by omega)
   have s:=um hs (x:=(i:Int)) (o:=(a:Int)) (by omega) (by omega) (by omega) (by omega)
   have o:(a:Int) * (m:Int)+(i:Int)=((a * m+i:Nat):Int):=by simp
   rw[hm,o]at s
   rw[decide_eq_true (show(a:Int)<(k:Int) by omega),cond_true,C,GA,s,GA,D,GA,E,GA,wr' (by omega) (by omega)]
   have H:R.length<=xs.length+1:=p6 (ys:=tab d.Next q ((a * m+i:Nat):Int)::xs) (iz u) λe A=>by
    rcases(v e).1 A with h|h
    .rw[h];exact Gi ..
    .exact List.mem_cons_of_mem _ h
   refine⟨_,rfl,by omega,by dsimp only;omega,by omega,u,by dsimp only;omega,λe=>?_⟩
   dsimp only
   rw[v,l]
   constructor
   .rintro(h|⟨b,B,g⟩)
    .exact⟨a,by omega,h⟩
    .exact⟨b,by omega,g⟩
   .rintro⟨b,B,g⟩
    by_cases o:b=a
    .subst o;exact .inl g
    .exact .inr ⟨b,by omega,g⟩
  .have:a=k:=by omega
   subst this
   rw[decide_eq_false (show ¬((a:Nat):Int)<(a:Int) by omega),cond_false]
   exact⟨_,rfl,j,l⟩) (2 ^ 64) 0 ([],0) (by omega) ⟨rfl,Nat.zero_le _,List.Pairwise.nil,Fg _,λe=>by simp⟩ (by omega)
 match b,G with
 |.inr c,h=>rw[F];exact⟨c.1,rfl,h⟩
omit hn hs in
theorem CM {q i:Nat}(C:q<n) (hi:i<m):∃xs r,cntM (fY d (m:Int) q i) k 0 []=some (.inr xs)/\0<xs.length/\xs.length<=4/\cr xs=some (xs.mergeSort λx c=>decide (x<=c))/\dv (xs.mergeSort λx c=>decide (x<=c))=some r/\SuccR d m k q i r:=by
 have K:=iD p.In
 have I:=iD p.Out
 obtain⟨xs,h1,y,z⟩:=cg (f:=fY d (m:Int) q i) (λb (l:VI)=>l.length=b/\∀g,g∈l↔∃e:Nat,e<b/\g=tab d.Next q ((e * m+i:Nat):Int)) k (s:=[]) ⟨rfl,λg=>by simp⟩ (λb l A ⟨s,t⟩=>by
  obtain⟨row,E,F,_⟩:=qm (d:=d) (k:=k) (by omega) (by omega) hd hD C hi A
  have hb:b * m<=4 * 4:=G2 (by omega) (by omega)
  have o:(b:Int) * (m:Int)=((b * m:Nat):Int):=by simp
  unfold fY
  rw[E,GA,o,wr' (z:=((b * m:Nat):Int)) (by omega) (by omega),wr' (by omega) (by omega),show((b * m:Nat):Int)+(i:Int)=((b * m+i:Nat):Int) by omega,F,GA,app1 (by omega) rfl]
  refine⟨_,rfl,by rw[C9,s];rfl,λg=>?_⟩
  rw[E4,E7,t]
  constructor
  .rintro(⟨e,D,j⟩|h)
   .exact⟨e,by omega,j⟩
   .exact⟨b,by omega,h⟩
  .rintro⟨e,D,j⟩
   by_cases o:e=b
   .subst o;exact .inr j
   .exact .inl ⟨e,by omega,j⟩)
 have B:(xs.mergeSort λx c=>decide (x<=c)).Pairwise (·<=·):=by
  have h:=List.pairwise_mergeSort (le:=λx c:Int=>decide (x<=c)) (λa u G h1 y=>by simp only[decide_eq_true_eq]at *;omega) (λa u=>by simp only[Bool.or_eq_true,decide_eq_true_eq];omega) xs
  exact h.imp λh=>by simpa using h
 have H:(xs.mergeSort λx c=>decide (x<=c)).length=xs.length:=List.length_mergeSort ..
 obtain⟨v,w⟩:=xz B
 refine⟨xs,_,h1,by omega,by omega,?_,?_,v,λg=>?_⟩
 .unfold cr
  rw[if_pos ⟨by omega,by omega⟩]
 .unfold dv
  rw[if_pos ⟨by omega,by omega⟩]
 .rw[w,List.mem_mergeSort,z]
omit hs hk hD in
theorem Ay:cntM (gl d (m:Int)) n 0 ([],[])=some (.inr (FK n 1,(GO n).map (rowQ n m)))/\cntM (fU d (m:Int)) n 0 ([],[])=some (.inr (FK n 1,(GO n).map (rowQ n m))):=by
 have r:=iD p.In
 have hr:rng (m:Int)=some ():=by unfold rng;rw[if_pos (by omega)]
 have k:∀c:Nat,c<n->cntM (gp d (m:Int) c) m 0 []=some (.inr (rowQ n m c))/\cntM (fV d (m:Int) c) m 0 []=some (.inr (rowQ n m c)):=λc q=>by
  have hb:c * m<=48 * 4:=G2 (by omega) (by omega)
  have e:(c:Int) * (m:Int)=((c * m:Nat):Int):=by simp
  have o:∀a:Nat,a<m->FW .i64 (FW .i64 ((d.Next.length:Int)+FW .i64 ((c:Int) * (m:Int)))+(a:Int))=((n+c * m+a:Nat):Int):=λa g=>by
   rw[e,wr' (z:=((c * m:Nat):Int)) (by omega) (by omega),wr' (z:=(d.Next.length:Int)+((c * m:Nat):Int)) (by omega) (by omega),wr' (by omega) (by omega)]
   omega
  have hl:∀a:Nat,((GO a).map λj=>((n+c * m+j:Nat):Int)).length=a:=λa=>by rw[Gg,GK]
  constructor
  .obtain⟨b,h1,i⟩:=cg (f:=gp d (m:Int) c) (λa b=>b=(GO a).map λj=>((n+c * m+j:Nat):Int)) m (s:=[]) rfl (λa b g e=>by
    subst e
    unfold gp
    rw[o a g,app1 (by rw[hl];omega) rfl]
    exact⟨_,rfl,by rw[GP,FF];rfl⟩)
   rw[h1,i];rfl
  .obtain⟨b,h1,i⟩:=cg (f:=fV d (m:Int) c) (λa b=>b=(GO a).map λj=>((n+c * m+j:Nat):Int)) m (s:=[]) rfl (λa b g e=>by
    subst e
    unfold fV
    rw[o a g,app1 (by rw[hl];omega) rfl]
    exact⟨_,rfl,by rw[GP,FF];rfl⟩)
   rw[h1,i];rfl
 have l:FV ((m:Int)-0)=m:=by omega
 constructor
 .obtain⟨b,h1,i⟩:=cg (f:=gl d (m:Int)) (λa b=>b=(FK a 1,(GO a).map (rowQ n m))) n (s:=([],[])) rfl (λa b g e=>by
   subst e
   unfold gl
   dsimp only
   rw[hr,GA,l,(k a g).1,GA,bV,app1 (by simp;omega) rfl,GA,app1 (by simp;omega) rfl,GA]
   exact⟨_,rfl,by rw[G1,GP,FF];rfl⟩)
  rw[h1,i]
 .obtain⟨b,h1,i⟩:=cg (f:=fU d (m:Int)) (λa b=>b=(FK a 1,(GO a).map (rowQ n m))) n (s:=([],[])) rfl (λa b g e=>by
   subst e
   unfold fU
   dsimp only
   rw[hr,GA,l,(k a g).2,GA,bV,app1 (by simp;omega) rfl,GA,app1 (by simp;omega) rfl,GA]
   exact⟨_,rfl,by rw[G1,GP,FF];rfl⟩)
  rw[h1,i]
def ConR (d:Det) (n m k c:Nat) (s:VI×VV):Prop:=s.1=FK n 1++FK c 0/\∃R,s.2=(GO n).map (rowQ n m)++R/\R.length=c/\∀b a:Nat,b<n->a<m->b * m+a<c->∃e,R[b * m+a]? =some e/\SuccR d m k b a e
theorem yQ:∃b,cntM (gq p d (m:Int)) n 0 (FK n 1,(GO n).map (rowQ n m))=some (.inr b)/\cntM (fW p d (m:Int)) n 0 (FK n 1,(GO n).map (rowQ n m))=some (.inr b)/\ConR d n m k (n * m) b:=by
 have ah:=iD p.In
 have ae:=iD p.Out
 have hr:rng (m:Int)=some ():=by unfold rng;rw[if_pos (by omega)]
 have T:rng (k:Int)=some ():=by unfold rng;rw[if_pos (by omega)]
 have Q:FV ((m:Int)-0)=m:=by omega
 have P:FV ((k:Int)-0)=k:=by omega
 obtain⟨W,A⟩:=nf (eQ hs).2
 rw[hk]at A
 have ad:n * m<=48 * 4:=G2 hn (by omega)
 obtain⟨b,e,h1,M,N,O⟩:=vU (f:=gq p d (m:Int)) (g:=fW p d (m:Int)) (λc b e=>b=e/\ConR d n m k (c * m) b) n (s:=(FK n 1,(GO n).map (rowQ n m))) (t:=(FK n 1,(GO n).map (rowQ n m))) ⟨rfl,by rw[Nat.zero_mul];exact⟨by simp,[],by simp,rfl,λc i _ _ h=>absurd h (Gy _)⟩⟩ (λc b e r ⟨j,q⟩=>by
  subst j
  obtain⟨z,aj,F,H,K,L⟩:=vU (f:=gt p d c) (g:=fX p d (m:Int) c) (λi b e=>b=e/\ConR d n m k (c * m+i) b) m (s:=b) (t:=b) ⟨rfl,q⟩ (λi b e l ⟨j,q⟩=>by
   subst j
   obtain⟨s,R,t,o,C⟩:=q
   obtain⟨x,V,y⟩:=Dv hs hm hk hd hD r l
   obtain⟨xs,ai,X,ak,al,Y,Z,aa⟩:=CM hm hk hd hD r l
   have:=y.uniq aa
   subst this
   have ab:=tx (n:=n) r l
   have af:b.1.length=n+(c * m+i):=by rw[s];simp
   have ag:b.2.length=n+(c * m+i):=by rw[t];simp[o]
   unfold gt fX
   rw[app1 (xs:=b.1) (by omega) rfl,V,W,A,T,P,X]
   simp only[GA,bV]
   rw[Y,app1 (xs:=b.2) (by omega) rfl]
   simp only[GA]
   rw[Z,GA,app1 (xs:=b.2) (by omega) rfl,GA]
   refine⟨_,_,rfl,rfl,rfl,?_,R++[x],?_,by rw[C9,o];rfl,λw v S u ac=>?_⟩
   .dsimp only
    rw[s,← Nat.add_assoc,G1,Fo]
   .dsimp only
    rw[t,Fo]
   .by_cases j:w * m+v=c * m+i
    .obtain⟨D,E⟩:=DS u l j
     subst D E
     exact⟨x,by rw[← o];simp,y⟩
    .obtain⟨U,a,B⟩:=C w v S u (by omega)
     exact⟨U,by rw[Fw (by omega)];exact a,B⟩)
  subst K
  unfold gq fW
  rw[hr,GA,GA,Q]
  have G:cntM (gt p d c) m 0 (b.1,b.2)=some (.inr z):=F
  have I:cntM (fX p d (m:Int) c) m 0 (b.1,b.2)=some (.inr z):=H
  rw[G,I,GA,GA,bV,bV]
  exact⟨_,_,rfl,rfl,rfl,by rw[Nat.add_mul,Nat.one_mul];exact L⟩)
 subst N
 exact⟨b,h1,M,O⟩
end
theorem copyPairs {ps:VP}(hl:ps.length<=4) (hb:∀x∈ps,x.Ask.length<=1000000000/\x.Give.length<=1000000000) (X:Det) (l:X.Pairs=ps):cntM (gu X) ps.length 0 []=some (.inr ps)/\cntM (fp X) ps.length 0 []=some (.inr ps):=by
 constructor
 .obtain⟨c,h1,e⟩:=cg (f:=gu X) (λa c=>c=ps.take a) ps.length (s:=[]) rfl (λa c g d=>by
   subst d
   have b:ps[a]? =some ps[a]:=ct g
   generalize ps[a]=x at b
   obtain⟨i,j⟩:=hb x (FI b)
   have k:∀{xs:VI},xs.length<=1000000000->eO xs=some xs:=λ{xs} h=>by
    unfold eO
    rw[appL (by rw[Gh];omega) rfl];rfl
   unfold gu
   rw[l,bT,b,GA,GA,k i,GA,k j,GA,app1 (by rw[FE];omega) rfl]
   exact⟨_,rfl,by rw[Gv,b];rfl⟩)
  rw[h1,e,Gx]
 .obtain⟨c,h1,e⟩:=cg (f:=fp X) (λa c=>c=ps.take a) ps.length (s:=[]) rfl (λa c g d=>by
   subst d
   have b:ps[a]? =some ps[a]:=ct g
   generalize ps[a]=x at b
   obtain⟨i,j⟩:=hb x (FI b)
   unfold fp pV
   rw[l,bT,b,GA,appL (by rw[Gh];omega) rfl,GA,appL (by rw[Gh];omega) rfl,GA,GA,app1 (by rw[FE];omega) rfl]
   exact⟨_,rfl,by rw[Gv,b];rfl⟩)
  rw[h1,e,Gx]
theorem vN {p:Sig}{d:Det}(hs:sigOk p=true) (hd:detOk p d=true):∃(n m k:Nat) (A:Arena),d.Next.length=n/\pw p.In=(m:Int)/\pw p.Out=(k:Int)/\1<=n/\n<=48/\1<=m/\m<=4/\1<=k/\k<=4/\(∀row∈d.Next,RowIn (n:Int) ((m * k:Nat):Int) row)/\(∀x∈d.Pairs,x.Ask.length<=1000000000/\x.Give.length<=1000000000)/\ConA d n m k A/\iG p d=some (A,d.Pairs,true)/\eZ p d=some (A,d.Pairs):=by
 obtain⟨h1,e,s,t⟩:=eb hd
 have K:=iD p.In
 have I:=iD p.Out
 obtain⟨m,hm⟩:=dD (z:=pw p.In) (by omega)
 obtain⟨k,hk⟩:=dD (z:=pw p.Out) (by omega)
 have hb:∀x∈d.Pairs,x.Ask.length<=1000000000/\x.Give.length<=1000000000:=λx u=>by
  have f:=hd
  unfold detOk at f
  simp only[ra]at f
  have hp:=f.1.2
  unfold pairsOk at hp
  rw[ra,Gc]at hp
  have:=hp.2 x u
  unfold pairOk at this
  rw[ra]at this
  have G:=(St.of this.1).len
  have H:=(St.of this.2).len
  omega
 have hD:∀row∈d.Next,RowIn (d.Next.length:Int) ((m * k:Nat):Int) row:=λrow hr=>by
  have:=t row hr
  unfold ltd at this
  rw[hm,hk]at this
  simpa using this
 obtain⟨q,r⟩:=Ay e hm rfl
 obtain⟨b,E,F,j,R,c,l,o⟩:=yQ hs e hm hk rfl hD
 obtain⟨w,y⟩:=copyPairs s hb d rfl
 refine⟨d.Next.length,m,k,⟨b.1,b.2⟩,rfl,hm,hk,h1,e,by omega,by omega,by omega,by omega,hD,hb,⟨j,?_,λg a=>?_,λg v a i=>?_⟩,?_,?_⟩
 .show b.2.length=_
  rw[c];simp[l]
 .show b.2[g]? =_
  rw[c,Fw (by simpa using a),List.getElem?_map,List.getElem?_range a];rfl
 .obtain⟨B,C,D⟩:=o g v a i (tx a i)
  refine⟨B,?_,D⟩
  show b.2[_]? =_
  rw[c,Fx (by simp),Gg,GK,Nat.add_sub_cancel_left]
  exact C
 .unfold iG
  rw[lW hs hb,hd,GA,F7,cond_false,yo hs,GA,hm,q,GA,bV]
  dsimp only
  rw[E,GA,bV,w];rfl
 .unfold eZ
  rw[dX hs,GA,hm,r,GA,bV]
  dsimp only
  rw[F,GA,bV,y];rfl
def atP (P:VL) (y:Int):Int:=match idx P y with | some v=>v.At | none=> -1
theorem dR {P:VL}{y:Int}{v:Place}(h:idx P y=some v):atP P y=v.At:=by unfold atP;rw[h]
structure Cx (d:Det) (n m k:Nat) (A:Arena) (P:VL) (g:Parity) (W:Int->Prop) (pk:VI):Prop where
 n1:1<=n
 n48:n<=48
 m1:1<=m
 m4:m<=4
 k1:1<=k
 k4:k<=4
 dl:d.Next.length=n
 cell:∀row∈d.Next,RowIn (n:Int) ((m * k:Nat):Int) row
 con:ConA d n m k A
 rg:RecG A d.Pairs ⟨0,firstR d.Pairs.length⟩ P g
 ok:c8 g=true
 sol:Solv g W pk
section
variable {d:Det}{n m k:Nat}{A:Arena}{P:VL}{g:Parity}{W:Int->Prop}{pk:VI}(h:Cx d n m k A P g W pk)
include h
theorem Cx.len:g.Prio.length=P.length/\g.Arena.Owner.length=P.length/\g.Arena.Next.length=P.length/\P.length<=256/\1<=P.length/\pk.length=P.length:=by
 have a:=h.rg.game
 have h1:=a.ol
 have b:=a.nl
 have c:=a.ql
 have d:=h.sol.len
 have e:=(C7.1 a.zero).1
 exact⟨c,h1,b,h.rg.le,by omega,by omega⟩
theorem Cx.place {x:Int}(b:Xn P.length x):∃v,idx P x=some v/\0<=v.At/\v.At<((n+n * m:Nat):Int):=by
 obtain⟨v,d,hm⟩:=g8 (xs:=P) b.1 b.2
 have c:=h.rg.game.inn v hm
 have a:=c.a1
 rw[h.con.ol,C9,FD,FD]at a
 exact⟨v,d,c.a0,a⟩
theorem Cx.row {x:Int}{v:Place}(b:idx P x=some v):∃a ar rc,idx g.Arena.Next x=some a/\idx A.Next v.At=some ar/\RowP P ar rc a/\idx g.Arena.Owner x=idx A.Owner v.At/\a.length<=16:=by
 obtain⟨l,m⟩:=(eh b)
 obtain⟨d,j⟩:=dD l
 subst j
 rw[bT]at b
 have k:=(C7.1 b).1
 obtain⟨e,_,a,ar,c,f,i⟩:=h.rg.game.row d v k b
 refine⟨a,ar,_,by rw[bT];exact c,f,i,by rw[bT];exact e,?_⟩
 have:=(dZ h.ok).2.2.2.2 d a c
 exact this.2.1
omit h in
theorem mU {x y:Int}{r:VI}(hr:idx g.Arena.Next x=some r):(gI g).E x y↔y∈r:=by
 show y∈cX g.Arena x↔_
 rw[dV hr]
theorem Cx.state {x:Int}{v:Place}(f:idx P x=some v) (hs:v.At<(n:Int)):(gI g).own x=true/\∃(q:Nat) (r:VI),v.At=(q:Int)/\q<n/\idx g.Arena.Next x=some r/\(∀b∈r,Xn P.length b/\∃a:Nat,a<m/\atP P b=((n+(q * m+a):Nat):Int))/\∀a:Nat,a<m->∃b∈r,atP P b=((n+(q * m+a):Nat):Int):=by
 obtain⟨C,o,t,_⟩:=h.place (x:=x) ⟨(eh f).1,(eh f).2.1⟩
 rw[f]at o
 cases o
 obtain⟨q,k⟩:=dD t
 have d:q<n:=by omega
 obtain⟨r,ar,rc,y,p,s,z,_⟩:=h.row f
 have u:ar=rowQ n m q:=by
  rw[k,bT,h.con.r1 q d]at p
  exact(GS p).symm
 subst u
 have w:idx g.Arena.Owner x=some 1:=by
  rw[z,k,bT,h.con.ol,Fw (by simpa using d),GH,if_pos d]
 refine⟨?_,q,r,k,d,y,λb l=>?_,λa j=>?_⟩
 .show ownL _ x=true
  unfold ownL
  rw[w];rfl
 .obtain⟨i,B,e,c⟩:=s.to b l
  have A:=(C7.1 c).1
  unfold rowQ at e
  obtain⟨a,j,e⟩:=FH.1 e
  refine⟨⟨i,by omega⟩,a,GM.1 j,?_⟩
  rw[dR (by rw[cN i];exact c),← e,Nat.add_assoc]
 .obtain⟨b,l,i,c⟩:=s.has ((n+q * m+a:Nat):Int) (by unfold rowQ;exact FH.2 ⟨a,GM.2 j,rfl⟩)
  refine⟨b,l,?_⟩
  rw[dR (by rw[cN i];exact c),Nat.add_assoc]
theorem Cx.mid {y:Int}(B:Xn P.length y){q i:Nat}(p:q<n) (hi:i<m) (ha:atP P y=((n+(q * m+i):Nat):Int)):(gI g).own y=false/\∃c,idx g.Arena.Next y=some c/\(∀b∈c,Xn P.length b/\∃a:Nat,a<k/\atP P b=tab d.Next q ((a * m+i:Nat):Int))/\∀a:Nat,a<k->∃b∈c,atP P b=tab d.Next q ((a * m+i:Nat):Int):=by
 obtain⟨v,r,_,_⟩:=h.place B
 rw[dR r]at ha
 obtain⟨c,ar,rc,C,s,t,D,_⟩:=h.row r
 have z:=tx (n:=n) p hi
 obtain⟨w,E,G,u⟩:=h.con.r0 q i p hi
 have x:ar=w:=by
  rw[ha,bT,E]at s
  exact(GS s).symm
 subst x
 have A:idx g.Arena.Owner y=some 0:=by
  rw[D,ha,bT,h.con.ol,Fx (by simp),FD,Nat.add_sub_cancel_left,GH,if_pos z]
 refine⟨?_,c,C,λb o=>?_,λa j=>?_⟩
 .show ownL _ y=false
  unfold ownL
  rw[A];rfl
 .obtain⟨f,F,l,e⟩:=t.to b o
  have hl:=(C7.1 e).1
  obtain⟨a,j,l⟩:=(u F).1 l
  exact⟨⟨f,by omega⟩,a,j,by rw[dR (by rw[cN f];exact e),l]⟩
 .obtain⟨b,o,f,e⟩:=t.has _ ((u _).2 ⟨a,j,rfl⟩)
  exact⟨b,o,by rw[dR (by rw[cN f];exact e)]⟩
theorem Cx.cellAt {q i o:Nat}(b:q<n) (hi:i<m) (a:o<k):∃row,idx d.Next (q:Int)=some row/\idx row ((o * m+i:Nat):Int)=some (tab d.Next q ((o * m+i:Nat):Int))/\0<=tab d.Next q ((o * m+i:Nat):Int)/\tab d.Next q ((o * m+i:Nat):Int)<(n:Int):=
 qm h.m1 h.m4 h.dl h.cell b hi a
theorem Cx.mine {x:Int}(b:Xn P.length x) (j:(gI g).own x=wB W x):∃a,idx pk x=some a/\Xn P.length a/\(gI g).E x a/\wB W a=wB W x:=by
 obtain⟨k,_,_,_,_,l⟩:=h.len
 have ha:=h.sol.ans
 rw[k]at ha
 obtain⟨i,c,d,e⟩:=ha.mine x b j
 obtain⟨a,f,_⟩:=g8 (xs:=pk) b.1 (by have:=b.2;omega)
 rw[rP f]at i c d e
 exact⟨a,f,d,c,e⟩
theorem Cx.yours {x y:Int}(c:Xn P.length x) (b:¬(gI g).own x=wB W x) (a:(gI g).E x y) (d:Xn P.length y):wB W y=wB W x:=by
 obtain⟨e,_⟩:=h.len
 have ha:=h.sol.ans
 rw[e]at ha
 exact ha.yours x y c b a d
end
def toP (P:VL) (r:VI) (z:Int):Option Nat:=r.findIdx? λa=>atP P a==z
theorem Cm {P:VL}{r:VI}{z:Int}(h:∃a∈r,atP P a=z):∃c a,toP P r z=some c/\r[c]? =some a/\atP P a=z:=by
 obtain⟨a,f,d⟩:=h
 cases b:toP P r z with
 |none=>
  unfold toP at b
  rw[GW]at b
  have:=b a f
  simp[d]at this
 |some c=>
  unfold toP at b
  obtain⟨h1,e,_⟩:=GX.1 b
  exact⟨c,r[c],rfl,ct h1,by simpa using e⟩
def tgt (P:VL) (r:VI) (z:Int):Int:=match toP P r z with | some a=>r.getD a 0 | none=> -1
theorem xe {P:VL}{r:VI}{z:Int}(h:∃b∈r,atP P b=z):tgt P r z∈r/\atP P (tgt P r z)=z/\∃a:Nat,toP P r z=some a/\r[a]? =some (tgt P r z):=by
 obtain⟨a,b,h1,c,e⟩:=Cm h
 have d:tgt P r z=b:=by
  unfold tgt
  rw[h1]
  show r.getD a 0=b
  rw[bR,c];rfl
 rw[d]
 exact⟨FI c,e,a,h1,c⟩
def du (f:Nat->Int) (F:VI):Nat->VI×VI
 |0=>(F,[])
 |j+1=>(addN (du f F j).1 (f j),(du f F j).2++[df (addN (du f F j).1 (f j)) (f j)])
theorem vA {F:VI}{t:Int}(h:t∈F):0<=df F t/\df F t<(F.length:Int):=by
 unfold df
 cases a:F.findIdx? (λx=>t==x) with
 |none=>
  rw[GW]at a
  have:=a t h
  simp at this
 |some b=>
  obtain⟨h1,_⟩:=GX.1 a
  dsimp only
  omega
theorem xm {F:VI}{t:Int}:t∈addN F t:=by
 unfold addN
 by_cases h:t∈F
 .rw[if_pos h];exact h
 .rw[if_neg h];simp
theorem A8 {F:VI}{t x:Int}(h:x∈addN F t):x∈F\/x=t:=by
 unfold addN at h
 by_cases a:t∈F
 .rw[if_pos a]at h;exact .inl h
 .rw[if_neg a]at h;simpa using h
theorem vx {F:VI}(t:Int) (hl:F.length<=1000):(bif decide (df F t<0) then FR (appS 8 F [t]) λx=>some (x,(F.length:Int)) else some (F,df F t))=some (addN F t,df (addN F t) t):=by
 by_cases h:t∈F
 .rw[decide_eq_false (by have:=(vA h).1;omega),cond_false]
  unfold addN
  rw[if_pos h]
 .rw[vC h,decide_eq_true (by omega),cond_true,app1 (by omega) rfl]
  unfold addN
  rw[if_neg h,vB h];rfl
structure NmRow (N:Nat) (F:VI) (j:Nat) (Q:Int->Prop) (F' row:VI):Prop where
 nm:Names N F'
 pre:∀(i:Nat) v,F[i]? =some v->F'[i]? =some v
 len:F.length<=F'.length
 le:F'.length<=F.length+j
 rl:row.length=j
 rin:∀x∈row,0<=x/\x<(F'.length:Int)
 all:∀x∈F',Q x
theorem tZ {N:Nat}{F:VI}{Q:Int->Prop}(e:Names N F) (g:∀x∈F,Q x){f:Nat->Int}{c:Nat}(i:∀a,a<c->0<=f a/\f a<(N:Int)/\Q (f a)):∀a,a<=c->NmRow N F a Q (du f F a).1 (du f F a).2
 |0,_=>⟨e,λ_ _ h=>h,Fg _,Fg _,rfl,λx b=>(by cases b),g⟩
 |a+1,hj=>by
  have d:=tZ e g i a (by omega)
  obtain⟨m,n,o⟩:=i a (by omega)
  unfold du
  generalize du f F a=G at *
  obtain⟨k,l⟩:=d.nm.add m n
  have r:G.1.length<=(addN G.1 (f a)).length/\(addN G.1 (f a)).length<=G.1.length+1:=by
   unfold addN
   by_cases h:f a∈G.1
   .rw[if_pos h];omega
   .rw[if_neg h,C9];simp
  have h1:=d.len
  have q:=d.le
  have hm:=vA (xm (F:=G.1) (t:=f a))
  refine⟨k,λj v p=>l j v (d.pre j v p),by dsimp only;omega,by dsimp only;omega,by simp[d.rl],λx b=>?_,λx b=>?_⟩
  .rcases E4.1 b with b|b
   .have:=d.rin x b
    dsimp only;omega
   .rw[E7.1 b];exact hm
  .rcases A8 b with b|b
   .exact d.all x b
   .rw[b];exact o
structure Stp3 (p:Sig) (cs:VC) (d:Det) (n m k:Nat) (A:Arena) (P:VL) (g:Parity) (W:Int->Prop) (pk:VI):Prop where
 sig:sigOk p=true
 det:detOk p d=true
 im:pw p.In=(m:Int)
 ok:pw p.Out=(k:Int)
 cx:Cx d n m k A P g W pk
 sC:iG p d=some (A,d.Pairs,true)
 iC:eZ p d=some (A,d.Pairs)
 sR:iv A d.Pairs 0=some (g,P,true)
 iR:ed A d.Pairs 0=some (g,P,true)
 sS:ur g=some ⟨wonL g.Prio.length W,pk⟩
 iS:mH g=some ⟨wonL g.Prio.length W,pk⟩
 sW:jn g=some (wonL g.Prio.length W)
 iW:eK g=some (wonL g.Prio.length W)
 won:idx (wonL g.Prio.length W) 0=some (b2i (wB W 0))
structure Stp2 (p:Sig) (cs:VC) (d:Det) (A:Arena):Prop where
 cl:dI p cs=true
 prd:∃N:Nat,ltd p=N/\PR N cs d
 sig:sigOk p=true
 det:detOk p d=true
 pb:∀x∈d.Pairs,x.Ask.length<=1000000000/\x.Give.length<=1000000000
 aok:ef A=true
 pok:pairsOk d.Pairs (A.Owner.length:Int)=true
 a1:1<=A.Owner.length/\A.Owner.length<=256
 al:∃m:Nat,pw p.In=m/\A.Owner.length=d.Next.length+d.Next.length * m
 sC:iG p d=some (A,d.Pairs,true)
 iC:eZ p d=some (A,d.Pairs)
theorem setup (p:Sig){a:VC}(hb:∀B∈a,Clause.bd B):(cU p a=some (zeroD,false)/\db p a=some (zeroD,false)/\(sigOk p=true->dI p a=true->2<a.length))\/∃d A,cU p a=some (d,true)/\db p a=some (d,true)/\Stp2 p a d A /\
 ((iv A d.Pairs 0=some noRec/\ed A d.Pairs 0=some noRec/\ManyP A.Owner.length d.Pairs.length)\/∃n m k P g W pk,Stp3 p a d n m k A P g W pk):=by
 rcases qg p hb with ⟨h1,b,C⟩|⟨hs,G,N,d,E,_,F,hd,_,h1,b⟩
 .exact .inl ⟨h1,b,C⟩
 .right
  obtain⟨n,m,k,A,j,z,K,y,i,w,f,u,v,hD,hpb,c,t,q⟩:=vN hs hd
  have l:=DR i y w f u v j hD c
  have H:A.Owner.length=n+n * m:=by rw[c.ol];simp
  have U:n * m<=48 * 4:=G2 i f
  have s:pairsOk d.Pairs (A.Owner.length:Int)=true:=by
   have e:=hd
   unfold detOk at e
   simp only[ra]at e
   have hp:=e.1.2
   unfold pairsOk at hp ⊢
   rw[ra,Gc]at hp ⊢
   refine⟨hp.1,λx I=>?_⟩
   have:=hp.2 x I
   unfold pairOk at this ⊢
   rw[ra]at this ⊢
   exact⟨(St.of this.1).ok (by omega),(St.of this.2).ok (by omega)⟩
  refine⟨d,A,h1,b,⟨G,⟨N,E,F⟩,hs,hd,hpb,l,s,⟨by omega,by omega⟩,⟨m,z,by rw[H,j]⟩,t,q⟩,?_⟩
  rcases uH l s hpb (Int.le_refl 0) (by omega) with hr|⟨P,g,D,r,L,M⟩
  .exact .inl hr
  .right
   obtain⟨W,pk,O,Q,R,S,T⟩:=xj r
   have o:Cx d n m k A P g W pk:=⟨y,i,w,f,u,v,j,hD,c,D,r,T⟩
   obtain⟨V,_,_,_,X,_⟩:=o.len
   exact⟨n,m,k,P,g,W,pk,hs,hd,z,K,o,t,q,L,M,O,Q,R,S,lF ⟨Int.le_refl _,by omega⟩⟩
section
variable {xs:VP}{n:Int}(h0:0<=n) (h1:n<=256) (hb:∀x∈xs,x.Ask.length<=1000000000/\x.Give.length<=1000000000)
include h0 h1 hb
omit h0 h1 in
theorem oh:kT xs n=some (pairsOk xs n):=by
 unfold kT pairsOk
 rw[d9 (f:=jL xs n) (r:=false) (pairOk n) (xs:=xs) rfl (λd x a=>by
  obtain⟨b,c⟩:=hb x (FI a)
  unfold jL pairOk
  rw[bT,a]
  simp only[GA,kY b,kY c]
  cases dj n x.Ask <;> cases dj n x.Give <;> rfl)]
 cases xs.all (pairOk n) <;> simp[aft]
end
section
variable {p:Sig}{d:Det}(hs:sigOk p=true) (hb:∀x∈d.Pairs,x.Ask.length<=1000000000/\x.Give.length<=1000000000)
include hs hb
theorem sg:qx p d=some (detOk p d):=by
 unfold qx detOk
 simp only[rj,orE,GA]
 rw[← Bool.not_and]
 cases h1:(decide (1<=(d.Next.length:Int))&&decide ((d.Next.length:Int)<=48)) with
 |false=>rfl
 |true=>
  simp only[ra,decide_eq_true_eq]at h1
  rw[d9 (f:=m9 p d) (r:=false) (detRow p d.Next.length) (xs:=d.Next) rfl (λb row a=>by
   unfold m9 detRow
   rw[bT,a]
   simp only[GA,sH hs,nX,bne]
   cases((row.length:Int)==ltd p) <;> cases row.all (inR d.Next.length) <;> rfl),oh hb]
  simp only[F7,cond_false,GA,F8]
  cases d.Next.all (detRow p d.Next.length) <;> cases pairsOk d.Pairs d.Next.length <;> rfl
end
def outsL (d:Det) (m k q i:Nat) (z:Int):VI:=((GO k).filter λa=>tab d.Next q ((a * m+i:Nat):Int)==z).map Int.ofNat
def outF (d:Det) (m k q i:Nat) (z:Int):Int:=(outsL d m k q i z).getD 0 0
theorem AR (d:Det) (m k q i:Nat) (z:Int):(outsL d m k q i z).length<=k:=by
 unfold outsL
 rw[Gg]
 exact GQ (GJ ..) (by rw[GK];exact Fg _)
theorem zb (d:Det) (m j q i:Nat) (z:Int):outsL d m (j+1) q i z=outsL d m j q i z++(if(tab d.Next q ((j * m+i:Nat):Int)==z)=true then[(j:Int)] else[]):=by
 unfold outsL
 rw[GP,List.filter_append,FF]
 congr 1
 rw[List.filter_cons,List.filter_nil]
 cases tab d.Next q ((j * m+i:Nat):Int)==z <;> rfl
theorem Dd {d:Det}{m k q i o:Nat}{z:Int}(e:o<k) (h:z=tab d.Next q ((o * m+i:Nat):Int)):idx (outsL d m k q i z) 0=some (outF d m k q i z)/\0<=outF d m k q i z/\outF d m k q i z<(k:Int):=by
 have hm:(o:Int)∈outsL d m k q i z:=FH.2 ⟨o,Gj.2 ⟨GM.2 e,by simp[h]⟩,rfl⟩
 have hl:=GZ hm
 have b:(outsL d m k q i z)[0]? =some ((outsL d m k q i z)[0]'hl):=ct hl
 have c:outF d m k q i z=(outsL d m k q i z)[0]'hl:=by
  unfold outF
  rw[bR,b];rfl
 rw[c]
 refine⟨by rw[show(0:Int)=((0:Nat):Int) from rfl,bT];exact b,?_⟩
 have:=GY hl
 generalize(outsL d m k q i z)[0]'hl=y at this
 unfold outsL at this
 obtain⟨f,h1,a⟩:=FH.1 this
 have:=GM.1 (Gj.1 h1).1
 have a:(f:Int)=y:=a
 omega
theorem po (f:Nat->Int) (F:VI):∀b,F.length<=(du f F b).1.length/\(du f F b).1.length<=F.length+b/\(du f F b).2.length=b
 |0=>⟨Fg _,Fg _,rfl⟩
 |b+1=>by
  obtain⟨a,d,c⟩:=po f F b
  have h:(du f F b).1.length<=(addN (du f F b).1 (f b)).length/\(addN (du f F b).1 (f b)).length<=(du f F b).1.length+1:=by
   unfold addN
   split
   .omega
   .rw[C9];simp
  refine⟨?_,?_,?_⟩
  .show _<=(addN _ _).length;omega
  .show(addN _ _).length<=_;omega
  .show((du f F b).2++[_]).length=_;rw[C9,c];rfl
def fM (pk:VI) (P:VL) (r:VI) (n m q:Nat) (i:Nat):Int:=pkL pk (tgt P r ((n+(q * m+i):Nat):Int))
def oM (d:Det) (pk:VI) (P:VL) (r:VI) (n m k q:Nat) (i:Nat):Int:=outF d m k q i (atP P (fM pk P r n m q i))
theorem mM (f:Nat->Int) (F:VI){i:Nat}{v:Int}(b:F[i]? =some v):∀a,(du f F a).1[i]? =some v
 |0=>b
 |a+1=>by
  have h:=mM f F b a
  show(addN _ _)[i]? =_
  unfold addN
  split
  .exact h
  .rw[Fw (C7.1 h).1];exact h
theorem xZ (f:Nat->Int) (F:VI){i:Nat}:∀{j:Nat},i<j->∃a:Int,(du f F j).2[i]? =some a/\0<=a/\(du f F j).1[a.toNat]? =some (f i)
 |j+1,hi=>by
  have hl:=(po f F j).2.2
  show ∃a:Int,((du f F j).2++[df (addN (du f F j).1 (f j)) (f j)])[i]? =some a/\0<=a/\(addN (du f F j).1 (f j))[a.toNat]? =some (f i)
  by_cases e:i=j
  .subst e
   obtain⟨a,c,d,b⟩:=ye (xm (F:=(du f F i).1) (t:=f i))
   refine⟨_,by rw[Fx (by omega),hl,Nat.sub_self];rfl,by rw[c];omega,by rw[c,Gb];exact b⟩
  .obtain⟨a,c,d,b⟩:=xZ f F (show i<j by omega)
   refine⟨a,by rw[Fw (by omega)];exact c,d,?_⟩
   unfold addN
   split
   .exact b
   .rw[Fw (C7.1 b).1];exact b
structure Mkr (N m k:Nat) (Q:Int->Prop) (F:VI) (i:Nat) (Nx Ou:VV):Prop where
 nm:Names N F
 all:∀x∈F,Q x
 zero:F[0]? =some 0
 nxl:Nx.length=i
 oul:Ou.length=i
 nxr:∀row∈Nx,row.length=m/\∀x∈row,0<=x/\x<(F.length:Int)
 our:∀row∈Ou,row.length=m/\∀x∈row,0<=x/\x<(k:Int)
def itM (d:Det) (n m k:Nat) (P:VL) (g:Parity) (pk:VI):Nat->VI×VV×VV
 |0=>([0],[],[])
 |j+1=>
  ((du (fM pk P (cX g.Arena ((itM d n m k P g pk j).1.getD j 0)) n m (atP P ((itM d n m k P g pk j).1.getD j 0)).toNat) (itM d n m k P g pk j).1 m).1,
   (itM d n m k P g pk j).2.1++[(du (fM pk P (cX g.Arena ((itM d n m k P g pk j).1.getD j 0)) n m (atP P ((itM d n m k P g pk j).1.getD j 0)).toNat) (itM d n m k P g pk j).1 m).2],
   (itM d n m k P g pk j).2.2++[(GO m).map (oM d pk P (cX g.Arena ((itM d n m k P g pk j).1.getD j 0)) n m k (atP P ((itM d n m k P g pk j).1.getD j 0)).toNat)])
section
variable {d:Det}{n m k:Nat}{A:Arena}{P:VL}{g:Parity}{W:Int->Prop}{pk:VI}(h:Cx d n m k A P g W pk)
include h
theorem vo {x:Int}{v:Place}(i:idx P x=some v) (ha:v.At<(n:Int)) (s:wB W x=false):∃(q:Nat) (r:VI),v.At=(q:Int)/\q<n/\idx g.Arena.Next x=some r/\r.length<=16/\(∀b∈r,Xn P.length b)/\∀a:Nat,a<m ->
 ∃j b c,toP P r ((n+(q * m+a):Nat):Int)=some j/\r[j]? =some b/\tgt P r ((n+(q * m+a):Nat):Int)=b/\(∃H∈r,atP P H=((n+(q * m+a):Nat):Int))/\idx pk b=some (fM pk P r n m q a)/\idx P (fM pk P r n m q a)=some c/\c.At=atP P (fM pk P r n m q a) /\
  (0<=fM pk P r n m q a/\fM pk P r n m q a<(P.length:Int)/\(wB W (fM pk P r n m q a)=false/\atP P (fM pk P r n m q a)<(n:Int)))/\idx (outsL d m k q a c.At) 0=some (oM d pk P r n m k q a)/\0<=oM d pk P r n m k q a/\oM d pk P r n m k q a<(k:Int):=by
 have S:Xn P.length x:=⟨(eh i).1,(eh i).2.1⟩
 obtain⟨M,q,r,R,l,o,A,w⟩:=h.state i ha
 obtain⟨Z,_,_,z,_,_,_,hl⟩:=h.row i
 rw[o]at z
 cases z
 refine⟨q,r,R,l,o,hl,λb t=>(A b t).1,λa f=>?_⟩
 obtain⟨G,U,j,V,X⟩:=xe (w a f)
 generalize t:tgt P r ((n+(q * m+a):Nat):Int)=b at *
 have u:=(A b G).1
 have F:wB W b=wB W x:=h.yours S (by rw[M,s];simp) ((mU o).2 G) u
 obtain⟨T,aa,N,L,_⟩:=h.mid u l f U
 obtain⟨to,C,p,O,Q⟩:=h.mine u (by rw[T,F,s])
 have e:fM pk P r n m q a=to:=by
  unfold fM
  rw[t,rP C]
 obtain⟨_,Y,y,B⟩:=L to ((mU N).1 O)
 obtain⟨c,D,_,_⟩:=h.place p
 have E:c.At=atP P to:=(dR D).symm
 obtain⟨_,_,_,_,I⟩:=h.cellAt l f y
 have K:=Dd (d:=d) (m:=m) (k:=k) (q:=q) (i:=a) (z:=atP P to) y B
 refine⟨j,b,c,V,X,rfl,w a f,by rw[e];exact C,by rw[e];exact D,by rw[e];exact E,by rw[e];exact⟨p.1,p.2,by rw[Q,F,s],by rw[B];exact I⟩,?_⟩
 unfold oM
 rw[e,E]
 exact K
end
theorem Bv (d:Det) (n m k:Nat) (P:VL) (g:Parity) (pk:VI):∀{i j:Nat},i<=j->(itM d n m k P g pk i).1.length<=(itM d n m k P g pk j).1.length:=by
 intro i j a
 induction a with
 |refl=>exact Fg _
 |step _ b=>exact GQ b (po _ _ _).1
section
variable {d:Det}{n m k:Nat}{A:Arena}{P:VL}{g:Parity}{W:Int->Prop}{pk:VI}(h:Cx d n m k A P g W pk)
include h
variable (h0:wB W 0=false)
include h0
theorem gT:∀a:Nat,(∀i,i<a->i<(itM d n m k P g pk i).1.length)->Mkr P.length m k (λx=>wB W x=false/\atP P x<(n:Int)) (itM d n m k P g pk a).1 a (itM d n m k P g pk a).2.1 (itM d n m k P g pk a).2.2
 |0,_=>by
  obtain⟨_,_,_,_,O,_⟩:=h.len
  have G:=h.rg.game.zero
  have H:atP P 0<(n:Int):=by
   rw[dR (v:=⟨0,firstR d.Pairs.length⟩) (by rw[show(0:Int)=((0:Nat):Int) from rfl,bT];exact G)]
   have:=h.n1
   show(0:Int)<_
   omega
  refine⟨⟨by show[(0:Int)].Nodup;simp,λx b=>?_⟩,λx b=>?_,rfl,rfl,rfl,λx b=>(by cases b),λx b=>(by cases b)⟩
  .rw[E7.1 b];omega
  .rw[E7.1 b];exact⟨h0,H⟩
 |a+1,hj=>by
  have e:=gT a λi o=>hj i (by omega)
  have r:=hj a (by omega)
  unfold itM
  generalize itM d n m k P g pk a=s at *
  obtain⟨F,Nx,Ou⟩:=s
  dsimp only at e r ⊢
  have b:F[a]? =some F[a]:=ct r
  have C:F.getD a 0=F[a]:=by rw[bR,b];rfl
  rw[C]
  generalize F[a]=x at b
  have w:=FI b
  obtain⟨D,u⟩:=e.all x w
  obtain⟨v,t,_,_⟩:=h.place (x:=x) (e.nm.2 x w)
  rw[dR t]at u ⊢
  obtain⟨y,I,M,S,hr,hrl,R,q⟩:=vo h t u D
  rw[dV hr,show v.At.toNat=y by omega]
  have l:=tZ (N:=P.length) (F:=F) (Q:=λx=>wB W x=false/\atP P x<(n:Int)) e.nm e.all (f:=fM pk P I n m y) (c:=m) (λi o=>by
   obtain⟨_,_,_,_,_,_,_,_,_,_,L,_⟩:=q i o
   exact L) m (Fg _)
  have hl:=l.len
  refine⟨l.nm,l.all,l.pre 0 _ e.zero,by rw[C9,e.nxl];rfl,by rw[C9,e.oul];rfl,λrow p=>?_,λrow p=>?_⟩
  .rcases E4.1 p with j|j
   .obtain⟨z,A⟩:=e.nxr row j
    exact⟨z,λx b=>by have:=A x b;omega⟩
   .rw[E7.1 j]
    exact⟨l.rl,l.rin⟩
  .rcases E4.1 p with j|j
   .exact e.our row j
   .rw[E7.1 j]
    refine⟨by rw[Gg,GK],λT E=>?_⟩
    obtain⟨i,o,B⟩:=FH.1 E
    obtain⟨_,_,_,_,_,_,_,_,_,_,_,_,K⟩:=q i (GM.1 o)
    rw[← B];exact K
end
theorem D5 {P:VL}{r:VI}{z:Int}(hr:∀a∈r,Xn P.length a){j:Nat}(b:toP P r z=some j):cB r P z=some (j:Int):=by
 rw[fi (λa=>atP P a==z) (λa d=>by
  obtain⟨v,c,_⟩:=g8 (xs:=P) (hr a d).1 (hr a d).2
  unfold jM
  rw[c,GA,dR c])]
 unfold toP at b
 rw[b]
section
variable {p:Sig}(hs:sigOk p=true){d:Det}{n m k:Nat}{A:Arena}{P:VL}{g:Parity}{W:Int->Prop}{pk wn:VI}(h:Cx d n m k A P g W pk) (hm:pw p.In=(m:Int)) (hk:pw p.Out=(k:Int))
include hs h hm hk
omit hk in
theorem uJ {F:VI}(N:F.length<=256){v u:Place}{y:Int}{q i:Nat}{r:VI}(K:q<n) (hi:i<m) (L:v.At=(q:Int)) (hr:idx g.Arena.Next y=some r) (D:∀j∈r,Xn P.length j) (C:∀c:Nat,c<k->∃j∈r,atP P j=tab d.Next q ((c * m+i:Nat):Int)) (H:Int.tmod (FW .i64 (u.At-(d.Next.length:Int))) (m:Int)=(i:Int)):
 cntM (ga p d g P v y u (m:Int)) k 0 (F,[])=some (.inr (du (λc=>tgt P r (tab d.Next q ((c * m+i:Nat):Int))) F k)):=by
 have O:=h.k4
 have Q:=h.m4
 generalize hfe:(λc:Nat=>tgt P r (tab d.Next q ((c * m+i:Nat):Int)))=f
 have E:∀c,f c=tgt P r (tab d.Next q ((c * m+i:Nat):Int)):=λc=>by rw[← hfe]
 have I:∀b,(du f F b).1.length<=F.length+b/\(du f F b).2.length=b:=λb=>by
  induction b with
  |zero=>exact⟨Fg _,rfl⟩
  |succ b M=>
   obtain⟨a,A⟩:=M
   refine⟨?_,by show((du f F b).2++[_]).length=_;rw[C9,A];rfl⟩
   show(addN _ _).length<=_
   unfold addN
   split
   .omega
   .rw[C9];simp;omega
 have G:∀b:Nat,b<k->∃row,idx d.Next v.At=some row/\idx row ((b:Int) * (m:Int)+(i:Int))=some (tab d.Next q ((b * m+i:Nat):Int))/\∃e:Nat,toP P r (tab d.Next q ((b * m+i:Nat):Int))=some e/\r[e]? =some (f b):=λb l=>by
  obtain⟨row,s,t,_⟩:=h.cellAt K hi l
  obtain⟨_,_,e,w,x⟩:=xe (C b l)
  refine⟨row,by rw[L];exact s,?_,e,w,by rw[E];exact x⟩
  rw[← t]
  congr 1
 obtain⟨o,h1,B⟩:=cg (f:=ga p d g P v y u (m:Int)) (λb o=>o=du f F b) k (s:=(F,[])) rfl (λb o l z=>by
  subst z
  obtain⟨R,S⟩:=I b
  obtain⟨row,s,t,e,w,x⟩:=G b l
  have hb:b * m<=4 * 4:=G2 (by omega) (by omega)
  have z:(b:Int) * (m:Int)=((b * m:Nat):Int):=by simp
  refine⟨du f F (b+1),?_,rfl⟩
  unfold ga
  rw[s,GA,dX hs,hm,GA,H,wr' (z:=(b:Int) * (m:Int)) (by omega) (by omega),wr' (z:=(b:Int) * (m:Int)+(i:Int)) (by omega) (by omega),t,GA,hr,GA,D5 D w,GA,GA,bT,x,GA,oz,GA,vx _ (by omega),GA]
  dsimp only
  rw[app1 (by omega) rfl,GA]
  rfl)
 rw[h1,B]
structure CtI (N m k:Nat) (Q:Int->Prop) (F:VI) (i:Nat) (In:VI) (Nx:VV):Prop where
 il:i<=F.length
 nm:Names N F
 all:∀x∈F,Q x
 inl:In.length=i
 nxl:Nx.length=i
 inr:∀x∈In,0<=x/\x<(m:Int)
 nxr:∀row∈Nx,row.length=k/\∀x∈row,0<=x/\x<(F.length:Int)
theorem tw (h0:wB W 0=true):∃b:VI×Int×VI×VV,ci (fZ p d g P ⟨wn,pk⟩) (2 ^ 64) ([0],0,[],[])=some (.inr b)/\CtI P.length m k (λx=>wB W x=true/\atP P x<(n:Int)) b.1 b.1.length b.2.2.1 b.2.2.2:=by
 obtain⟨_,_,_,aE,aD,aK⟩:=h.len
 have hm1:=h.m1
 have ah:=h.m4
 have hk1:=h.k1
 have aG:=h.k4
 have ai:=h.n48
 obtain⟨ay,Y⟩:=nf (eQ hs).2
 rw[hk]at Y
 have al:rng (k:Int)=some ():=by unfold rng;rw[if_pos (by omega)]
 have af:FV ((k:Int)-0)=k:=by omega
 have aj:nz (m:Int)=some ():=by unfold nz;rw[if_neg (by omega)]
 have aw:atP P 0<(n:Int):=by
  have C:=h.rg.game.zero
  rw[dR (v:=⟨0,firstR d.Pairs.length⟩) (by rw[show(0:Int)=((0:Nat):Int) from rfl,bT];exact C)]
  have:=h.n1
  show(0:Int)<_
  omega
 obtain⟨s,aA,aB⟩:=cZ (f:=fZ p d g P ⟨wn,pk⟩) (λj (b:VI×Int×VI×VV)=>b.2.1=(j:Int)/\CtI P.length m k (λx=>wB W x=true/\atP P x<(n:Int)) b.1 j b.2.2.1 b.2.2.2) (λ_=>False)
  (λb=>CtI P.length m k (λx=>wB W x=true/\atP P x<(n:Int)) b.1 b.1.length b.2.2.1 b.2.2.2) 300 (λj b ⟨K,e⟩=>by
  obtain⟨F,aa,In,Nx⟩:=b
  dsimp only at K e
  subst K
  have aC:=e.nm.len
  unfold fZ
  dsimp only
  by_cases ag:j<F.length
  .have i:F[j]? =some F[j]:=ct ag
   generalize F[j]=x at i
   have T:=FI i
   have R:Xn P.length x:=e.nm.2 x T
   obtain⟨A,S⟩:=e.all x T
   obtain⟨v,z,aM,aN⟩:=h.place R
   rw[dR z]at S
   obtain⟨ak,o,aL,aq,t,ao,am,_⟩:=h.state z S
   obtain⟨E,ar,B,au,V⟩:=h.mine R (by rw[ak,A])
   obtain⟨_,l,r,U⟩:=am E ((mU ao).1 au)
   obtain⟨u,O,_,_⟩:=h.place B
   obtain⟨av,X,hr,H,I⟩:=h.mid B t r U
   have ap:u.At=((n+(o * m+l):Nat):Int):=by rw[← dR O];exact U
   have aI:=tx (n:=n) t r
   have aJ:n * m<=48 * 4:=G2 ai ah
   have L:Int.tmod (FW .i64 (u.At-(d.Next.length:Int))) (m:Int)=(l:Int):=by
    rw[ap,h.dl,wr' (by omega) (by omega),show((n+(o * m+l):Nat):Int)-(n:Int)=((o * m+l:Nat):Int) by omega,Int.tmod_eq_emod_of_nonneg (by omega)]
    have:(o * m+l) % m=l:=by
     rw[Nat.mul_comm,Nat.mul_add_mod]
     exact Nat.mod_eq_of_lt r
    omega
   have ac:=uJ hs h hm (F:=F) (v:=v) (u:=u) (y:=E) (by omega) t r aq hr (λaa C=>(H aa C).1) I L
   have q:=tZ (N:=P.length) (F:=F) (Q:=λx=>wB W x=true/\atP P x<(n:Int)) e.nm e.all (f:=λs=>tgt P X (tab d.Next o ((s * m+l:Nat):Int))) (c:=k) (λax M=>by
    obtain⟨Z,az,_⟩:=xe (I ax M)
    obtain⟨D,_⟩:=H _ Z
    obtain⟨_,_,_,_,w⟩:=h.cellAt t r M
    refine⟨D.1,D.2,?_,by rw[az];exact w⟩
    rw[h.yours B (by rw[av,V,A];simp) ((mU hr).2 Z) D,V,A]) k (Fg _)
   generalize du (λs=>tgt P X (tab d.Next o ((s * m+l:Nat):Int))) F k=G at *
   have ad:=e.inl
   have ae:=e.nxl
   have aH:=q.len
   rw[decide_eq_true (show(j:Int)<(F.length:Int) by omega),cond_true,bT,i,GA,z,GA,GA,ar,GA,O,GA,dX hs,hm,GA,aj,GA,ay,GA,Y,al,GA,af,ac,GA,bV,L]
   rw[app1 (xs:=In) (by omega) rfl,GA,app1 (xs:=Nx) (by omega) rfl,GA,wr' (by omega) (by omega)]
   refine⟨_,rfl,by omega,by dsimp only;omega,by dsimp only;omega,q.nm,q.all,by dsimp only;rw[C9,ad];rfl,by dsimp only;rw[C9,ae];rfl,λa ha=>?_,λrow an=>?_⟩
   .rcases E4.1 ha with ha|ha
    .exact e.inr a ha
    .rw[E7.1 ha];omega
   .rcases E4.1 an with y|y
    .obtain⟨ab,w⟩:=e.nxr row y
     exact⟨ab,λx i=>by have:=w x i;dsimp only;omega⟩
    .rw[E7.1 y]
     exact⟨q.rl,q.rin⟩
  .have aF:=e.il
   have:j=F.length:=by omega
   subst this
   rw[decide_eq_false (show ¬((F.length:Nat):Int)<(F.length:Int) by omega),cond_false]
   exact⟨_,rfl,e⟩) (2 ^ 64) 0 ([0],0,[],[]) (by omega) ⟨rfl,⟨by simp,⟨by simp,λx i=>by rw[E7.1 i];omega⟩,λx i=>by rw[E7.1 i];exact⟨h0,aw⟩,rfl,rfl,λx i=>(by cases i),λx i=>(by cases i)⟩⟩ (by omega)
 match s,aB with
 |.inr b,e=>exact⟨b,aA,e⟩
end
section
variable {p:Sig}(hs:sigOk p=true){d:Det}(hd:detOk p d=true) (hpb:∀x∈d.Pairs,x.Ask.length<=1000000000/\x.Give.length<=1000000000){n m k:Nat}{A:Arena}{P:VL}{g:Parity}{W:Int->Prop}{pk wn:VI}(h:Cx d n m k A P g W pk) (hm:pw p.In=(m:Int)) (hk:pw p.Out=(k:Int))
include hs hd hpb h hm hk
theorem DZ {q i:Nat}(t:q<n) (hi:i<m) (z:Int):lI p d q i z=some (outsL d m k q i z):=by
 have B:=h.n48
 have A:=h.m4
 have y:=h.k4
 have j:dz p=some (m:Int):=by rw[dX hs,hm]
 obtain⟨x,l⟩:=nf (eQ hs).2
 rw[hk]at l
 have u:rng (k:Int)=some ():=by unfold rng;rw[if_pos (by omega)]
 have s:FV ((k:Int)-0)=k:=by omega
 unfold lI
 rw[jv,hs,GA,F7,cond_false,sg hs hpb,hd,GA,GA,F7,cond_false,decide_eq_false (show ¬(q:Int)<0 by omega),GA,cond_false,h.dl,decide_eq_false (show ¬(n:Int)<=(q:Int) by omega),GA,cond_false,decide_eq_false (show ¬(i:Int)<0 by omega),GA,cond_false,j,GA,decide_eq_false (show ¬(m:Int)<=(i:Int) by omega),GA,cond_false,x,GA,l,u,GA,s]
 obtain⟨c,h1,o⟩:=cg (f:=iM p d q i z) (λa c=>c=outsL d m a q i z) k (s:=[]) rfl (λa c r e=>by
  subst e
  have hl:=AR d m a q i z
  obtain⟨row,v,w,_⟩:=h.cellAt t hi r
  have hb:a * m<=4 * 4:=G2 (by omega) (by omega)
  have e:(a:Int) * (m:Int)=((a * m:Nat):Int):=by simp
  have b:=zb d m a q i z
  unfold iM
  rw[v,GA,j,GA,e,wr' (z:=((a * m:Nat):Int)) (by omega) (by omega),wr' (by omega) (by omega),show((a * m:Nat):Int)+(i:Int)=((a * m+i:Nat):Int) by omega,w,GA]
  cases g:tab d.Next q ((a * m+i:Nat):Int)==z with
  |true=>
   rw[g,if_pos rfl]at b
   rw[cond_true,app1 (by omega) rfl,GA,GA]
   exact⟨_,rfl,b.symm⟩
  |false=>
   rw[g,if_neg (by simp),List.append_nil]at b
   rw[cond_false,GA]
   exact⟨_,rfl,b.symm⟩)
 rw[h1,o];rfl
omit hd hpb hk in
theorem EY {r:VI}(b:∀a∈r,Xn P.length a){q i:Nat}(l:q<n) (hi:i<m){j:Nat}(c:toP P r ((n+(q * m+i):Nat):Int)=some j):cA r P (n:Int) (q:Int) p (i:Int)=some (j:Int):=by
 have k:=h.n48
 have g:=h.m4
 have o:=tx (n:=n) l hi
 have s:n * m<=48 * 4:=G2 k g
 have f:(q:Int) * (m:Int)=((q * m:Nat):Int):=by simp
 rw[fg (λa=>atP P a==((n+(q * m+i):Nat):Int)) (λa e=>by
  obtain⟨v,d,_⟩:=g8 (xs:=P) (b a e).1 (b a e).2
  unfold jH
  rw[d,GA,dX hs,hm,GA,dR d,f,wr' (z:=((q * m:Nat):Int)) (by omega) (by omega),wr' (z:=(n:Int)+((q * m:Nat):Int)) (by omega) (by omega),wr' (by omega) (by omega),show(n:Int)+((q * m:Nat):Int)+(i:Int)=((n+(q * m+i):Nat):Int) by omega])]
 unfold toP at c
 rw[c]
end
end Go.Proofs.YtldlmopdhmaceaaGreatDoor
