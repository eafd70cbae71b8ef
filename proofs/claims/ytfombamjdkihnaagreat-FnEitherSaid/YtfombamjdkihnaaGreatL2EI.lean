/- Picks that win: both sides find the same. -/
import Derived.Test.YtfombamjdkihnaaGreatL1EI
import Derived.Test.YtfombamjdkihnaaGreatL0EI
set_option linter.unusedVariables false
set_option linter.unusedSimpArgs false
open Bool renaming and_eq_true → C8, eq_iff_iff → E4, not_false → FA, not_true → E5, true_and → E7
open Classical renaming byContradiction → E8
open Int renaming toNat → ES, toNat_natCast → Fb
open Go.IntKind renaming wrap → ET
open List renaming all_eq_true → Fc, append_assoc → Ej, findIdx?_eq_none_iff → FQ, findIdx?_eq_some_iff_getElem → FR, getD_eq_getElem?_getD → o5, getElem?_append_left → Es, getElem?_append_right → Et, getElem?_eq_getElem → o7, getElem?_eq_some_iff → DX, getElem?_of_mem → Ff, getElem?_replicate → FF, getElem_mem → FS, length_append → DZ, length_cons → D0, length_filter_le → Fg, length_map → Fh, length_nil → Fi, length_pos_of_mem → FT, length_range → FH, length_replicate → EA, length_take → EB, map_append → EC, mem_append → D2, mem_cons_self → Fj, mem_filter → Fk, mem_map → EE, mem_of_getElem? → EF, mem_range → FI, mem_singleton → D4, nil_append → FU, nodup_append → Fo, pairwise_iff_getElem → Fs, range → FK, range_succ → FL, replicate → EH, replicate_succ' → FV, take_add_one → Ft, take_length → Fv
open Nat renaming add_mul → D6, le_refl → Ec, le_trans → Fw, mul_le_mul → FW, not_lt_zero → Fx, one_mul → FX
open Option renaming bind → EO, bind_some → Fz
open Option.some renaming inj → EU
open Go.Proofs.YtfombamjdkihnaaGreat.Par renaming Dom → FY, NoDead → FO, Rg → FZ, pickG → F0, updF → F1
namespace Go.Proofs.YtfombamjdkihnaaGreat
open Go Go.Wk Go.Proofs
section
open Classical
theorem yb {n:Nat}{W:Int->Prop}(hn:n<=256) (q:Bool):∃B,ie (wonL n W) (b2i q)=some B/\B.length=n/\In B=FZ (Xn n) (wB W) q:=by
 have hl:=rA n W
 unfold ie
 rw[hl,de (by omega) rfl,Fz]
 obtain⟨c,h1,d,e⟩:=fillB (f:=jZ (wonL n W) (b2i q)) (FZ (Xn n) (wB W) q) n (s0:=EH n false) (by simp) (λa c i hs=>by
  have b:Xn n (a:Int):=⟨by omega,by omega⟩
  unfold jZ
  rw[lF b,Fz,ph]
  have:(wB W (a:Int)==q)=decide (FZ (Xn n) (wB W) q (a:Int)):=by
   rw[E4,decide_eq_true_iff]
   unfold FZ
   simp[b]
  rw[this]) (λv g=>g.1)
 rw[h1,Fz,bK]
 exact⟨c,rfl,d,funext λv=>propext (e v)⟩
theorem AN {n:Nat}{W:Int->Prop}(hn:n<=256) (p:VI) (q:Bool):∃e,nq ⟨wonL n W,p⟩ (b2i q)=some e/\e.length<=n/\(∀v,v∈e↔FZ (Xn n) (wB W) q v):=by
 have hl:=rA n W
 unfold nq
 dsimp only
 rw[hl,decide_eq_false (by omega),cond_false]
 obtain⟨c,h1,d,k⟩:=bR (f:=jB ⟨wonL n W,p⟩ (b2i q)) (λa (c:VI)=>c.length<=a/\∀v,v∈c↔FZ (Xn n) (wB W) q v/\v<a) n (s:=[]) ⟨by simp,λv=>⟨λh=>absurd h (by simp),λh=>by have:=h.1.1.1;omega⟩⟩ (λa c l ⟨m,j⟩=>by
  have i:Xn n (a:Int):=⟨by omega,by omega⟩
  unfold jB
  dsimp only
  rw[lF i,Fz,ph,app1 (by omega) rfl]
  cases b:(wB W (a:Int)==q) with
  |true=>
   have b:wB W (a:Int)=q:=by simpa using b
   refine⟨_,rfl,by simp;omega,λv=>?_⟩
   rw[D2,j,D4]
   constructor
   .rintro(⟨h1,d⟩|rfl)
    .exact⟨h1,by omega⟩
    .exact⟨⟨i,b⟩,by omega⟩
   .rintro⟨h1,d⟩
    by_cases g:v=a
    .exact .inr g
    .exact .inl ⟨h1,by omega⟩
  |false=>
   have b:¬wB W (a:Int)=q:=by simpa using b
   refine⟨_,rfl,by omega,λv=>?_⟩
   rw[j]
   constructor
   .rintro⟨h1,d⟩
    exact⟨h1,by omega⟩
   .rintro⟨h1,d⟩
    have:v≠a:=λg=>b (by rw[← g];exact h1.2)
    exact⟨h1,by omega⟩)
 rw[h1,Fz,bK]
 exact⟨c,rfl,d,λv=>by rw[k];exact⟨λh=>h.1,λh=>⟨h,h.1.2⟩⟩⟩
section
variable {g:Parity}{n:Nat}(hp:cT g=true) (hn:n=g.Prio.length){W:Int->Prop}(hW:Par.Sol (gI g) (Xn n) false W)
include hp hn hW
omit hW in
theorem Du {P:VV}(S:PrevT g.Arena.Next n n P){k:VI}(hk:k.length=n) (Q:Par.PInv (gI g) (Xn n) (wB W) (pkL k)){v:Int}(c:Xn n v) (Y:(gI g).own v=wB W v){row:VI}(hr:idx g.Arena.Next v=some row){i:Nat}{u:Int}(h1:row[i]? =some u)
 (C:wB W u=wB W v/\FY (F0 (gI g) (F1 (pkL k) v u)) (FZ (Xn n) (wB W) (wB W v)) (wB W v) (FZ (Xn n) (wB W) (wB W v)))
 (M:∀(j:Nat) y,j<i->row[j]? =some y->¬(wB W y=wB W v/\FY (F0 (gI g) (F1 (pkL k) v y)) (FZ (Xn n) (wB W) (wB W v)) (wB W v) (FZ (Xn n) (wB W) (wB W v))))
 {B:VB} (N:B.length=n) (o:In B=FZ (Xn n) (wB W) (wB W v)):
 ∃q,ru ⟨g.Arena.Owner,g.Prio,g.Arena.Next,P,k⟩ B v=some (u,q)/\q.length=n/\pkL q=F1 (pkL k) v u:=by
 have h:=GOk.of hp
 rw[← hn]at h
 have V:FO (gI g) (Xn n):=nH h (pC hp)
 obtain⟨am,an,ac⟩:=h.row v row hr
 have ah:=(DX.1 h1).1
 have ai:=h.n256
 unfold ru
 obtain⟨ab,ae,r⟩:=cE (f:=mu ⟨g.Arena.Owner,g.Prio,g.Arena.Next,P,k⟩ B v) (λj (a:Int×VI)=>a.1=(j:Int)/\j<=i/\a.2.length=n/\∃s,pkL a.2=F1 (pkL k) v s) (λ(a:Int×VI)=>a.1=u/\a.2.length=n/\pkL a.2=F1 (pkL k) v u) (λ_=>False) i (λj a ⟨t,ag,w,s,l⟩=>by
  obtain⟨ak,a⟩:=a
  dsimp only at t w l
  subst t
  have T:j<row.length:=by omega
  have b:row[j]? =some row[j]:=o7 T
  generalize row[j]=y at b
  obtain⟨L,af⟩:=ac y (EF b)
  have K:Xn n y:=⟨L,af⟩
  have aa:(gI g).E v y:=by show y∈rowI g.Arena v;rw[ey hr];exact EF b
  unfold mu
  dsimp only
  rw[hr,Fz,decide_eq_true (show(j:Int)<(row.length:Int) by omega),cond_true,Fz,bH,b,Fz,cS (B:=B) L (by omega),Fz]
  have O:decide (In B y)=(wB W y==wB W v):=by
   rw[E4,decide_eq_true_iff,o]
   unfold FZ
   simp[K]
  have H:ET .i64 ((j:Int)+1)=((j+1:Nat):Int):=by rw[wr' (by omega) (by omega)];omega
  rw[O]
  cases D:(wB W y==wB W v) with
  |false=>
   simp only[FA,cond_true,H]
   have X:¬wB W y=wB W v:=by simpa using D
   have:j≠i:=λm=>by subst m;rw[h1]at b;cases b;exact X C.1
   exact⟨_,rfl,by omega,rfl,by omega,w,s,l⟩
  |true=>
   have I:wB W y=wB W v:=by simpa using D
   obtain⟨al,Z⟩:=ch (xs:=a) (i:=v) c.1 (by have:=c.2;omega)
   obtain⟨e,G,aj⟩:=cL (xs:=a) (i:=v) y c.1 (by have:=c.2;omega)
   have p:pkL e=F1 (pkL k) v y:=by rw[sO G,l,rV]
   have d:e.length=n:=by omega
   have E:gS ⟨g.Arena.Owner,g.Prio,g.Arena.Next,P,e⟩=F0 (gI g) (F1 (pkL k) v y):=by rw[BH h P d,p]
   have R:FO (gS ⟨g.Arena.Owner,g.Prio,g.Arena.Next,P,e⟩) (In B):=by
    rw[E,o]
    exact Q.noDead V aa K I _
   have F:=Cp (h.wfS S d) h.pri N R (wB W v)
   rw[E,o]at F
   simp only[E5,cond_false]
   rw[Z,Fz,G,Fz,zw h c,Y,Fz,F,Fz]
   by_cases hd:FY (F0 (gI g) (F1 (pkL k) v y)) (FZ (Xn n) (wB W) (wB W v)) (wB W v) (FZ (Xn n) (wB W) (wB W v))
   .rw[decide_eq_true hd,cond_true]
    have:¬j<i:=λU=>M j y U b ⟨I,hd⟩
    have:j=i:=by omega
    subst this
    rw[h1]at b;cases b
    exact⟨_,rfl,rfl,d,p⟩
   .rw[decide_eq_false hd,cond_false,H]
    have:j≠i:=λm=>by subst m;rw[h1]at b;cases b;exact hd C.2
    exact⟨_,rfl,by omega,rfl,by omega,d,y,p⟩) (2 ^ 64) 0 (0,k) (by omega) ⟨rfl,by omega,hk,pkL k v,(vp rfl).symm⟩ (by omega)
 match ab,r with
 |.inl a,r=>
  obtain⟨x,z,A⟩:=r
  obtain⟨ao,ad⟩:=a
  dsimp only at x z A
  subst x
  rw[ae,Fz,ze]
  exact⟨ad,rfl,z,A⟩
omit hW in
theorem CO {k:VI}(hk:k.length=n) (M:Par.PInv (gI g) (Xn n) (wB W) (pkL k)){v:Int}(l:Xn n v) (an:pkL k v= -1){row:VI}(hr:idx g.Arena.Next v=some row){i:Nat}{u:Int}(h1:row[i]? =some u)
 (K:wB W u=wB W v/\FY (F0 (gI g) (F1 (pkL k) v u)) (FZ (Xn n) (wB W) (wB W v)) (wB W v) (FZ (Xn n) (wB W) (wB W v)))
 (ag:∀(j:Nat) y,j<i->row[j]? =some y->¬(wB W y=wB W v/\FY (F0 (gI g) (F1 (pkL k) v y)) (FZ (Xn n) (wB W) (wB W v)) (wB W v) (FZ (Xn n) (wB W) (wB W v))))
 {L:VI} (w:∀e,e∈L↔FZ (Xn n) (wB W) (wB W v) e):
 ∃E,cntM (gO g (wonL n W) v L row) row.length 0 k=some (.inr E)/\E.length=n/\pkL E=F1 (pkL k) v u:=by
 have h:=GOk.of hp
 rw[← hn]at h
 have aq:FO (gI g) (Xn n):=nH h (pC hp)
 obtain⟨aT,aU,aD⟩:=h.row v row hr
 have aM:=(DX.1 h1).1
 have aO:=h.n256
 have N:(λe=>e∈L)=FZ (Xn n) (wB W) (wB W v):=funext λe=>propext (w e)
 obtain⟨aA,aF,p⟩:=tc (f:=gO g (wonL n W) v L row) (λj (d:VI)=>j<=i/\d.length=n/\pkL d=pkL k) (λ_=>False) (λ(d:VI)=>d.length=n/\pkL d=F1 (pkL k) v u) row.length (s:=k) ⟨by omega,hk,rfl⟩ (λj d am ⟨aJ,Y,G⟩=>by
  have c:row[j]? =some row[j]:=o7 am
  generalize row[j]=y at c
  obtain⟨aH,aI⟩:=aD y (EF c)
  have V:Xn n y:=⟨aH,aI⟩
  have U:(gI g).E v y:=by show y∈rowI g.Arena v;rw[ey hr];exact EF c
  unfold gO
  rw[bH,c,Fz,lF V,Fz,lF l,Fz]
  have ak:(b2i (wB W y) !=b2i (wB W v))= !(wB W y==wB W v):=by unfold bne;rw[ph]
  rw[ak]
  cases P:(wB W y==wB W v) with
  |false=>
   simp only[FA,cond_true]
   have ar:¬wB W y=wB W v:=by simpa using P
   have:j≠i:=λb=>by subst b;rw[h1]at c;cases c;exact ar K.1
   exact⟨_,rfl,by omega,Y,G⟩
  |true=>
   have T:wB W y=wB W v:=by simpa using P
   obtain⟨aR,au⟩:=ch (xs:=d) (i:=v) l.1 (by have:=l.2;omega)
   obtain⟨A,Q,aP⟩:=cL (xs:=d) (i:=v) y l.1 (by have:=l.2;omega)
   obtain⟨aS,av⟩:=ch (xs:=A) (i:=v) l.1 (by have:=l.2;omega)
   obtain⟨aE,R,aQ⟩:=cL (xs:=A) (i:=v) (-1) l.1 (by have:=l.2;omega)
   have z:pkL A=F1 (pkL k) v y:=by rw[sO Q,G]
   have aw:pkL aE=pkL k:=by rw[sO R,z,rV,vp an]
   have S:A.length=n:=by omega
   obtain⟨ae,ab,ac,B⟩:=B7 hp hn S (λx m=>by
    rw[z]at m ⊢
    unfold F1 at m ⊢
    by_cases b:x=v
    .rw[if_pos b];subst b;exact U
    .rw[if_neg b]at m ⊢
     exact(M.pick x m).2.2.1)
   rw[z]at B
   have ai:FO (gI ae) (λe=>e∈L):=by
    rw[B,N]
    exact M.noDead aq U V T _
   obtain⟨q,O,W',ad,C,H,I,aK,aL⟩:=yl ac (L:=L) (λe ax=>((w e).1 ax).1) ai
   rw[B,N]at C
   have al:=Par.hold_iff (q:=wB W v) C
   simp only[E5,cond_false]
   rw[au,Fz,Q,Fz,ab,Fz,ad,Fz,Fz]
   dsimp only
   have az:(bif !wB W v then((O.length:Int)==0) else((q.length:Int)==0))=decide (FY (F0 (gI g) (F1 (pkL k) v y)) (FZ (Xn n) (wB W) (wB W v)) (wB W v) (FZ (Xn n) (wB W) (wB W v))):=by
    rw[E4,decide_eq_true_iff,← al]
    cases D:wB W v with
    |false=>
     simp only[FA,cond_true]
     rw[show(((O.length:Int)==0)=true)↔O=[] from by simp]
     constructor
     .intro b x m
      refine⟨λ_=>trivial,λ_=>?_⟩
      apply E8
      intro ap
      have:=(I x).2 ⟨(w x).2 (by rw[D];exact m),ap⟩
      rw[b]at this;cases this
     .intro ha
      cases aj:O with
      |nil=>rfl
      |cons x xs=>
       obtain⟨t,Z⟩:=(I x).1 (by rw[aj];exact Fj ..)
       exact absurd ((ha x (by have:=(w x).1 t;rwa [D]at this)).2 trivial) Z
    |true=>
     simp only[E5,cond_false]
     rw[show(((q.length:Int)==0)=true)↔q=[] from by simp]
     constructor
     .intro b x m
      refine⟨λay=>?_,λaf=>absurd af (by decide)⟩
      have:=(H x).2 ay
      rw[b]at this;cases this
     .intro ha
      cases ah:q with
      |nil=>rfl
      |cons x xs=>
       have t:=(H x).1 (by rw[ah];exact Fj ..)
       have:=(ha x (by have:=C.sub x t;rwa [D]at this)).1 t
       cases this
   have aa:∀(a r o:Bool) {X:Type} (F:Bool->Option X),(EO (bif (b2i o==0) then some a else some false) λaB=>EO (bif aB then some true else EO (some (b2i o)) λaG=>EO (bif (aG==1) then some r else some false) λaC=>some aC) F)=F (bif !o then a else r):=by
    intro a r o X F
    cases o <;> cases a <;> cases r <;> rfl
   rw[aa,az]
   by_cases hd:FY (F0 (gI g) (F1 (pkL k) v y)) (FZ (Xn n) (wB W) (wB W v)) (wB W v) (FZ (Xn n) (wB W) (wB W v))
   .rw[decide_eq_true hd,cond_true]
    have:¬j<i:=λao=>ag j y ao c ⟨T,hd⟩
    have:j=i:=by omega
    subst this
    rw[h1]at c;cases c
    exact⟨_,rfl,S,z⟩
   .rw[decide_eq_false hd,cond_false,av,Fz,R,Fz]
    have:j≠i:=λb=>by subst b;rw[h1]at c;cases c;exact hd K.2
    exact⟨_,rfl,by omega,by omega,aw⟩)
 match aA,p with
 |.inr d,p=>
  rcases p with ⟨aN,_⟩|p
  .omega
  .exact⟨d,aF,p.1,p.2⟩
omit hp hn hW in
theorem qg {n:Nat}(v:Int):pkL (EH n (-1)) v= -1:=by
 unfold pkL
 cases h:idx (EH n (-1:Int)) v with
 |none=>rfl
 |some x=>
  obtain⟨a,b⟩:=cr h
  rw[cB a,FF]at h
  split at h
  .cases h;rfl
  .cases h
omit hW in
theorem yG {A:VI}(i:g8 g=some A) (v:A.length<=256):nR g (EH n (-1))=some true:=by
 have h:=GOk.of hp
 rw[← hn]at h
 obtain⟨h1,q,s,t,u⟩:=dY hp
 have j:qZ g (EH n (-1))=some (g,true):=by
  unfold qZ
  rw[mI,hp,Fz]
  have k:pT g (EH n (-1))=some true:=by
   unfold pT
   rw[EA,← hn]
   have:=cX (f:=kN g (EH n (-1))) (r:=false) (λ_:Int=>true) (xs:=EH n (-1)) (n:=n) (by simp) (λp x a=>by
    unfold kN
    have o:x= -1:=by
     rw[FF]at a
     split at a
     .cases a;rfl
     .cases a
    rw[bH,a,Fz,o];rfl)
   rw[this]
   simp only[bne_self_eq_false,cond_false,Fc,implies_true,if_true,Fz,bK]
  rw[k]
  simp only[E5,cond_false,Fz]
  rw[wg (by have:=h.lo;have:=h.n256;omega),Fz,wg (by omega),Fz,EA]
  obtain⟨c,d,e⟩:=bR (f:=mh g (EH n (-1))) (λb (c:VV)=>c=g.Arena.Next.take b) n (s:=[]) rfl (λb c m hs=>by
   subst hs
   have a:g.Arena.Next[b]? =some (g.Arena.Next[b]'(by have:=h.ln;omega)):=o7 (by have:=h.ln;omega)
   generalize g.Arena.Next[b]'(by have:=h.ln;omega)=row at a
   obtain⟨w,_,_⟩:=h.row (b:Int) row (by rw[bH];exact a)
   have hk:idx (EH n (-1:Int)) (b:Int)=some (-1):=by rw[bH,FF,if_pos m]
   unfold mh
   rw[bH,a,Fz,wg (by omega),Fz,hk,Fz]
   simp only[show decide ((0:Int)<= -1)=false from rfl,cond_false,Fz]
   rw[app1 (by rw[EB];omega) rfl,Fz]
   refine⟨_,rfl,?_⟩
   rw[Ft,a];rfl)
  rw[d,e,Fz,bK,List.take_of_length_le (by have:=h.ln;omega)]
 unfold nR
 rw[j,Fz]
 dsimp only
 rw[cond_true,i,Fz,Fz]
 have l:rv A A=some true:=by
  unfold rv
  have:=cX (f:=mv A A) (r:=false) (λ_:Int=>true) (xs:=A) (n:=A.length) rfl (λp x a=>by
   unfold mv
   rw[bH,a,Fz,Fz]
   simp)
  rw[this]
  simp only[bne_self_eq_false,cond_false,Fc,implies_true,if_true,Fz,bK]
 rw[l];rfl
theorem y7 (O:g8 g=some (wonL n W)):∃k,nT g (EH n (-1))=some (⟨wonL n W,k⟩,true)/\ny g (EH n (-1)) (wonL n W)=some ⟨wonL n W,k⟩/\k.length=n/\(∀v x,idx k v=some x->x= -1\/0<=x)/\Par.Ans (gI g) (Xn n) (wB W) (pkL k):=by
 have h:=GOk.of hp
 rw[← hn]at h
 have F:=h.n256
 have am:=rA n W
 obtain⟨P,ax,ay⟩:=wI h
 obtain⟨B0,z,T,U⟩:=yb (W:=W) F false
 obtain⟨B1,A,V,X⟩:=yb (W:=W) F true
 have z:ie (wonL n W) 0=some B0:=z
 have A:ie (wonL n W) 1=some B1:=A
 unfold nT ny
 rw[yG hp hn O (by omega),Fz,O,ax,EA,appL (by simp;omega) rfl]
 simp only[E5,cond_false,Fz,FU,EA,am]
 obtain⟨aK,Y,Z⟩:=bR (f:=jM g (EH n (-1)) (wonL n W)) (λb (c:VI)=>c=EH n (-1)) n (s:=EH n (-1)) rfl (λb c u hs=>by
  subst hs
  have hk:idx (EH n (-1:Int)) (b:Int)=some (-1):=by rw[bH,FF,if_pos u]
  unfold jM
  rw[hk]
  simp only[Fz,show((-1:Int) != -1)=false from rfl,cond_false]
  rw[yf (by simp;omega),Fz]
  refine⟨_,rfl,?_⟩
  apply List.ext_getElem?
  intro j
  rw[List.getElem?_set]
  simp only[FF,EA]
  split
  .rename_i e;subst e;rw[if_pos u]
  .rfl)
 subst Z
 rw[Y,Fz,bK,z,Fz,A,Fz]
 obtain⟨c,y,aa,ab,rfl,ac,ad,aF,ae,af⟩:=vy (f:=jN g (wonL n W) ⟨g.Arena.Owner,g.Prio,g.Arena.Next,P,EH n (-1)⟩ B0 B1) (g:=jH g (wonL n W)) (λb (c y:VI)=>c=y/\c.length=n/\Par.PInv (gI g) (Xn n) (wB W) (pkL c)/\(∀j:Nat,b<=j->pkL c j= -1)/\(∀v,Xn n v->v<b->(gI g).own v=wB W v->0<=pkL c v)/\(∀v x,idx c v=some x->x= -1\/0<=x)) n (s:=EH n (-1)) (t:=EH n (-1)) ⟨rfl,by simp,Par.PInv.start hW (λv _=>Bu) (λv=>by rw[qg];decide),λj _=>qg _,λv d u=>by have:=d.1;omega,λv x o=> .inl (by rw[← oN o];exact qg v)⟩ (λb c y u ⟨e,q,r,s,L,M⟩=>by
  subst e
  have d:Xn n (b:Int):=⟨by omega,by omega⟩
  have Q:=pA q d.1 d.2
  rw[s b (Ec b)]at Q
  unfold jN jH
  rw[Q,lF d,zw h d]
  simp only[Fz,show decide ((0:Int)<= -1)=false from rfl,cond_false]
  by_cases l:(gI g).own (b:Int)=wB W (b:Int)
  · -- a pick
    obtain⟨row,hr⟩:=ch (xs:=g.Arena.Next) (i:=(b:Int)) (by omega) (by have:=h.ln;omega)
    obtain⟨i,az,aL,aA,aB⟩:=r.ex d l (by rw[s b (Ec b)];decide)
    obtain⟨j,i,h1,t,N⟩:=xc (row:=row) (C:=λi=>wB W i=wB W (b:Int)/\FY (F0 (gI g) (F1 (pkL c) b i)) (FZ (Xn n) (wB W) (wB W b)) (wB W b) (FZ (Xn n) (wB W) (wB W b))) ⟨i,by have:i∈rowI g.Arena b:=az;rwa [ey hr]at this,aA,aB⟩
    have R:(gI g).E (b:Int) i:=by show i∈rowI g.Arena b;rw[ey hr];exact EF h1
    have G:=(DD h R).2
    obtain⟨aE,aq,aI,ar⟩:=AN (W:=W) F [] (wB W (b:Int))
    obtain⟨B,ag,ah,ai⟩:∃B,(bif (b2i (wB W (b:Int))==1) then some B1 else some B0)=some B/\B.length=n/\In B=FZ (Xn n) (wB W) (wB W b):=by
     cases aG:wB W (b:Int) with
     |true=>exact⟨B1,rfl,V,X⟩
     |false=>exact⟨B0,rfl,T,U⟩
    obtain⟨ao,ap,K,p⟩:=Du hp hn ay q r d l hr h1 t N ah ai
    obtain⟨w,au,av,aw⟩:=CO hp hn q r d (s b (Ec b)) hr h1 t N ar
    have:w=ao:=zy av K (by rw[aw,p])
    subst this
    obtain⟨aJ,ak⟩:=ch (xs:=w) (i:=(b:Int)) (by omega) (by omega)
    obtain⟨aD,S,aH⟩:=cL (xs:=w) (i:=(b:Int)) i (by omega) (by omega)
    have:aD=w:=zy (n:=n) (by omega) K (by rw[sO S,p,rV])
    subst this
    have D:(b2i (wB W (b:Int)) !=b2i ((gI g).own (b:Int)))=false:=by rw[l];simp
    have E:(b2i ((gI g).own (b:Int)) !=b2i (wB W (b:Int)))=false:=by rw[l];simp
    rw[D,E,cond_false,cond_false,Fz,cond_false,ag,Fz,ap,Fz]
    dsimp only
    rw[ak,Fz,S,Fz,aq,Fz,hr,Fz,au,Fz,bK]
    refine⟨_,_,rfl,rfl,rfl,K,?_,λI aj=>?_,λv H al m=>?_,λv x o=>?_⟩
    .rw[p];exact r.step d l R G t.1 t.2
    .rw[p]
     unfold F1
     rw[if_neg (by omega)]
     exact s I (by omega)
    .rw[p]
     unfold F1
     by_cases e:v=b
     .rw[if_pos e];exact G.1
     .rw[if_neg e];exact L v H (by omega) m
    .have:=oN o
     rw[p]at this
     unfold F1 at this
     by_cases e:v=b
     .rw[if_pos e]at this;rw[← this];exact .inr G.1
     .rw[if_neg e]at this
      obtain⟨aC,aM⟩:=cr o
      have hs:=pA q aC (by omega)
      rw[this]at hs
      exact M v x hs
  .have D:(b2i (wB W (b:Int)) !=b2i ((gI g).own (b:Int)))=true:=by
    unfold bne;rw[ph]
    cases o:wB W (b:Int) <;> cases an:(gI g).own (b:Int) <;> simp_all
   have E:(b2i ((gI g).own (b:Int)) !=b2i (wB W (b:Int)))=true:=by
    unfold bne;rw[ph]
    cases o:wB W (b:Int) <;> cases an:(gI g).own (b:Int) <;> simp_all
   rw[D,E,cond_true,cond_true,Fz,cond_true]
   refine⟨_,_,rfl,rfl,rfl,q,r,λI aj=>s I (by omega),λv H al m=>?_,M⟩
   have:v≠b:=λe=>l (by rw[← e];exact m)
   exact L v H (by omega) m)
 rw[aa,ab,Fz,Fz,bK,bK,appL (by simp;omega) rfl,Fz,FU]
 exact⟨c,rfl,rfl,ac,af,ad.ans λv d m=>ae v d d.2 m⟩
end
end
section
open Classical
theorem xk {g:Parity}{n:Nat}(h:GOk g n):qG g.Arena=some (EH n (-1)):=by
 have hn:=h.n256
 unfold qG
 rw[h.lo,de (by omega) rfl,Fz,EA]
 obtain⟨d,h1,e,c⟩:=fill (f:=oF) (λ_=> -1) n (s0:=EH n 0) (by simp) (λj d i hs=>rfl)
 rw[h1,Fz,bK]
 congr 1
 apply List.ext_getElem?
 intro b
 rw[FF]
 by_cases a:b<n
 .rw[if_pos a,← bH];exact c b a
 .rw[if_neg a];exact List.getElem?_eq_none (by omega)
theorem xW {n:Nat}(hn:n<=256):rm (n:Int)=some (EH n (-1)):=by
 unfold rm
 have hr:rng (n:Int)=some ():=by
  unfold rng
  first
   |rfl
   |rw[if_pos (by omega)]
 rw[hr,Fz,show ES ((n:Int)-0)=n from by omega]
 obtain⟨a,h1,c⟩:=bR (f:=mr) (λb (a:VI)=>a=EH b (-1)) n (s:=[]) rfl (λb a d hs=>by
  subst hs
  unfold mr
  rw[app1 (by simp;omega) rfl,Fz]
  exact⟨_,rfl,by rw[FV]⟩)
 rw[h1,Fz,bK,c]
structure Solv (g:Parity) (W:Int->Prop) (k:VI):Prop where
 sol:Par.Sol (gI g) (Xn g.Prio.length) false W
 len:k.length=g.Prio.length
 pick:∀v x,idx k v=some x->x= -1\/0<=x
 ans:Par.Ans (gI g) (Xn g.Prio.length) (wB W) (pkL k)
theorem wQ {g:Parity}(hp:cT g=true):∃W k,oW g=some ⟨wonL g.Prio.length W,k⟩/\mR g=some ⟨wonL g.Prio.length W,k⟩/\g8 g=some (wonL g.Prio.length W)/\eJ g=some (wonL g.Prio.length W)/\Solv g W k:=by
 have h:=GOk.of hp
 obtain⟨W,a,b,c⟩:=Bw h (pC hp)
 obtain⟨k,d,e,f,i,j⟩:=y7 hp rfl c a
 refine⟨W,k,?_,?_,a,b,c,f,i,j⟩
 .unfold oW
  rw[mI,hp,Fz,E5,cond_false,xW h.n256,Fz,d];rfl
 .unfold mR
  rw[uu,hp,Fz,E5,cond_false,xk h,Fz,b,Fz,e];rfl
end
def lasso (b:Int->Int):Nat->VI->Int->VI×Int
 |0,T,q=>(T,q)
 |k+1,T,q=>if q∈T then(T,q) else lasso b k (T++[q]) (b q)
theorem tN {b:Int->Int}{n:Nat}(hb:∀q:Int,0<=q->q<n->0<=b q/\b q<n):∀(k:Nat) (T:VI) (q:Int),n<k+T.length->T.Nodup->(∀x∈T,0<=x/\x<n)->0<=q->q<n ->
 (lasso b k T q).2∈(lasso b k T q).1/\(lasso b k T q).1.Nodup/\(∀x∈(lasso b k T q).1,0<=x/\x<n)
 |0,T,q,hk,hn,hr,_,_=>absurd (cZ n T hn hr) (by omega)
 |k+1,T,q,hk,hn,hr,q0,q1=>by
  unfold lasso
  by_cases c:q∈T
  .rw[if_pos c];exact⟨c,hn,hr⟩
  .rw[if_neg c]
   have g:(T++[q]).Nodup:=by
    rw[Fo]
    refine⟨hn,by simp,λa ha i e f=>?_⟩
    rw[D4]at e
    exact c (by rw[← e,← f];exact ha)
   exact tN hb k (T++[q]) (b q) (by simp;omega) g (λx d=>by
    rw[D2,D4]at d
    rcases d with d|rfl
    .exact hr x d
    .exact⟨q0,q1⟩) (hb q q0 q1).1 (hb q q0 q1).2
theorem uY {m d:Type}{f:d->Option (m⊕(d⊕d))}(st:VI->Int->d){b:Int->Int}{n:Nat}(hb:∀q:Int,0<=q->q<n->0<=b q/\b q<n)
 (i:∀(T:VI) (q:Int),T.length<=n->(∀x∈T,0<=x/\x<(n:Int))->0<=q->q<n->f (st T q)=some (if q∈T then .inr (.inl (st T q)) else .inr (.inr (st (T++[q]) (b q))))):
 ∀(k:Nat) (K:Nat) (T:VI) (q:Int),n<k+T.length->k<=K->T.Nodup->(∀x∈T,0<=x/\x<n)->0<=q->q<n->bQ f K (st T q)=some (.inr (st (lasso b k T q).1 (lasso b k T q).2))
 |0,K,T,q,hk,_,hn,hr,_,_=>absurd (cZ n T hn hr) (by omega)
 |k+1,K,T,q,hk,hK,hn,hr,q0,q1=>by
  rw[ij (by omega),i T q (cZ n T hn hr) hr q0 q1,Fz]
  unfold lasso
  by_cases e:q∈T
  .simp only[e,if_true];rfl
  .simp only[e,if_false]
   have l:(T++[q]).Nodup:=by
    rw[Fo]
    refine⟨hn,by simp,λa ha o g j=>?_⟩
    rw[D4]at g
    exact e (by rw[← g,← j];exact ha)
   exact uY st hb i k (K-1) (T++[q]) (b q) (by simp;omega) (by omega) l (λx c=>by
    rw[D2,D4]at c
    rcases c with c|rfl
    .exact hr x c
    .exact⟨q0,q1⟩) (hb q q0 q1).1 (hb q q0 q1).2
theorem uX {l d:Type}{f:d->Option (l⊕(d⊕d))}(st:VI->Int->d) (g:VI->Int->l){b:Int->Int}{n:Nat}(hb:∀q:Int,0<=q->q<n->0<=b q/\b q<n)
 (j:∀(T:VI) (q:Int),T.Nodup->(∀x∈T,0<=x/\x<(n:Int))->0<=q->q<n->f (st T q)=some (if q∈T then .inl (g T q) else .inr (.inr (st (T++[q]) (b q))))):
 ∀(k:Nat) (K:Nat) (T:VI) (q:Int),n<k+T.length->k<=K->T.Nodup->(∀x∈T,0<=x/\x<n)->0<=q->q<n->bQ f K (st T q)=some (.inl (g (lasso b k T q).1 (lasso b k T q).2))
 |0,K,T,q,hk,_,hn,hr,_,_=>absurd (cZ n T hn hr) (by omega)
 |k+1,K,T,q,hk,hK,hn,hr,q0,q1=>by
  rw[ij (by omega),j T q hn hr q0 q1,Fz]
  unfold lasso
  by_cases e:q∈T
  .simp only[e,if_true];rfl
  .simp only[e,if_false]
   have o:(T++[q]).Nodup:=by
    rw[Fo]
    refine⟨hn,by simp,λa ha p i m=>?_⟩
    rw[D4]at i
    exact e (by rw[← i,← m];exact ha)
   exact uX st g hb j k (K-1) (T++[q]) (b q) (by simp;omega) (by omega) o (λx c=>by
    rw[D2,D4]at c
    rcases c with c|rfl
    .exact hr x c
    .exact⟨q0,q1⟩) (hb q q0 q1).1 (hb q q0 q1).2
def dE (xs:VI) (v:Int):Int:=match xs.findIdx? (λx=>v==x) with | some a=>(a:Int) | none=> -1
theorem Ai {xs:VI}{v:Int}(h:v∉xs):dE xs v= -1:=by
 unfold dE
 have:xs.findIdx? (λx=>v==x)=none:=by
  rw[FQ]
  intro x b
  simp only[beq_eq_false_iff_ne]
  exact λa=>h (a ▸ b)
 rw[this]
theorem uc {xs:VI}{v:Int}(h:v∈xs):∃i:Nat,dE xs v=(i:Int)/\i<xs.length/\xs[i]? =some v:=by
 unfold dE
 cases a:xs.findIdx? (λx=>v==x) with
 |none=>
  rw[FQ]at a
  have:=a v h
  simp at this
 |some i=>
  rw[FR]at a
  obtain⟨h1,b,_⟩:=a
  refine⟨i,rfl,h1,?_⟩
  rw[o7 h1]
  have:=beq_iff_eq.1 b
  rw[← this]
theorem zg (xs:VI) (v:Int):xs.any (λx=>v==x)=decide (v∈xs):=by
 rw[E4,List.any_eq_true,decide_eq_true_eq]
 constructor
 .rintro⟨x,b,a⟩
  rw[beq_iff_eq]at a
  exact a ▸ b
 .exact λh=>⟨v,h,by simp⟩
theorem tg {part:Int->VI}{l:Nat}(hp:∀x,(part x).length=l):∀T:VI,(T.flatMap part).length=T.length * l
 | []=>by simp
 |x::T=>by rw[List.flatMap_cons,DZ,hp,tg hp T,D0,D6,FX,Nat.add_comm]
theorem wo (xs:VI) (v:Int):pH xs v=some (dE xs v):=by
 unfold pH dE
 rw[eH (f:=kG xs v) (λx=>v==x) (λa=>(a:Int)) (xs:=xs) (λa x b=>by
  unfold kG
  rw[bH,b,Fz,show(x==v)=(v==x) from BEq.comm]
  cases v==x <;> rfl),Fz]
 cases xs.findIdx? (λx=>v==x) <;> rfl
theorem oH (xs:VI) (v:Int):cH xs v=some (dE xs v):=iw xs v
def addN (xs:VI) (u:Int):VI:=if u∈xs then xs else xs++[u]
theorem Ah {xs:VI}{u:Int}(h:u∉xs):dE (xs++[u]) u=(xs.length:Nat):=by
 unfold dE
 have:(xs++[u]).findIdx? (λx=>u==x)=some xs.length:=by
  rw[List.findIdx?_append]
  have h1:xs.findIdx? (λx=>u==x)=none:=by
   rw[FQ]
   intro x b
   simp only[beq_eq_false_iff_ne]
   exact λa=>h (a ▸ b)
  rw[h1]
  simp
 rw[this]
def Names (n:Nat) (xs:VI):Prop:=xs.Nodup/\∀x∈xs,0<=x/\x<n
theorem Names.len {n:Nat}{xs:VI}(h:Names n xs):xs.length<=n:=cZ n xs h.1 h.2
theorem Names.add {n:Nat}{xs:VI}(h:Names n xs){u:Int}(f:0<=u) (g:u<n):Names n (addN xs u)/\∀(k:Nat) v,xs[k]? =some v->(addN xs u)[k]? =some v:=by
 unfold addN
 by_cases c:u∈xs
 .rw[if_pos c];exact⟨h,λk v hk=>hk⟩
 .rw[if_neg c]
  refine⟨⟨?_,λx b=>?_⟩,λk v hk=>?_⟩
  .rw[Fo]
   refine⟨h.1,by simp,λa ha i d e=>?_⟩
   rw[D4]at d
   exact c (by rw[← d,← e];exact ha)
  .rw[D2,D4]at b
   rcases b with b|rfl
   .exact h.2 x b
   .exact⟨f,g⟩
  .rw[Es (DX.1 hk).1];exact hk
theorem C3 {x k:Place}(h:(x.At==k.At&&x.Record==k.Record)=true):x=k:=by
 rw[C8,beq_iff_eq,beq_iff_eq]at h
 cases x
 cases k
 simp only at h
 rw[h.1,h.2]
def locR (K:VL) (k:Place):Option Nat:=K.findIdx? (λx=>x.At==k.At&&x.Record==k.Record)
def addR (K:VL) (k:Place):VL:=match locR K k with | some _=>K | none=>K++[k]
def atR (K:VL) (k:Place):Int:=match locR K k with | some a=>(a:Int) | none=>(K.length:Int)
theorem wU (K:VL) (k:Place):K.length<=(addR K k).length/\(addR K k).length<=K.length+1:=by
 unfold addR
 cases locR K k <;> simp
theorem wT {K:VL}{k:Place}{i:Nat}{v:Place}(h:K[i]? =some v):(addR K k)[i]? =some v:=by
 unfold addR
 cases locR K k with
 |some _=>exact h
 |none=>
  have:=(DX.1 h).1
  dsimp only
  rw[Es this];exact h
theorem Ay {K:VL}{k x:Place}(h:x∈addR K k):x∈K\/x=k:=by
 unfold addR at h
 cases a:locR K k with
 |some _=>rw[a]at h;exact .inl h
 |none=>rw[a]at h;simpa using h
theorem Aa {K:VL}{k:Place}{i:Nat}(h:locR K k=some i):K[i]? =some k:=by
 unfold locR at h
 obtain⟨h1,a,b⟩:=FR.1 h
 have:k=K[i]:=(C3 a).symm
 rw[o7 h1,← this]
theorem z9 {K:VL}{k:Place}(h:locR K k=none):k∉K:=λhm=>by
 unfold locR at h
 rw[FQ]at h
 have:=h k hm
 simp at this
theorem BB (K:VL) (k:Place):0<=atR K k/\(addR K k)[(atR K k).toNat]? =some k:=by
 unfold atR addR
 cases h:locR K k with
 |none=>exact⟨by dsimp only;omega,by dsimp only;rw[Fb];simp⟩
 |some a=>exact⟨by dsimp only;omega,by dsimp only;rw[Fb];exact Aa h⟩
theorem yr {K:VL}(hn:K.Nodup) (k:Place):(addR K k).Nodup:=by
 unfold addR
 cases h:locR K k with
 |none=>
  dsimp only
  refine Fo.2 ⟨hn,by simp,λa ha c hb b=>?_⟩
  rw[D4]at hb
  exact z9 h (hb ▸ b ▸ ha)
 |some d=>exact hn
def ef (a:Nat->Place) (K:VL):Nat->VL×VI
 |0=>(K,[])
 |j+1=>(addR (ef a K j).1 (a j),(ef a K j).2++[atR (ef a K j).1 (a j)])
structure RowR (ky:Nat->Place) (K:VL) (j:Nat) (K':VL) (row:VI):Prop where
 pre:∀(i:Nat) v,K[i]? =some v->K'[i]? =some v
 len:K.length<=K'.length
 le:K'.length<=K.length+j
 nod:K.Nodup->K'.Nodup
 rl:row.length=j
 at_:∀i:Nat,i<j->∃x,row[i]? =some x/\0<=x/\K'[x.toNat]? =some (ky i)
 mem:∀v∈K',v∈K\/∃i:Nat,i<j/\v=ky i
theorem nK (d:Nat->Place) (K:VL):∀a,RowR d K a (ef d K a).1 (ef d K a).2
 |0=>⟨λ_ _ h=>h,Ec _,Ec _,id,rfl,λb f=>absurd f (Fx b),λv h=> .inl h⟩
 |a+1=>by
  have h:=nK d K a
  unfold ef
  generalize ef d K a=F at *
  have hl:=wU F.1 (d a)
  obtain⟨i,j⟩:=BB F.1 (d a)
  refine⟨λb v c=>wT (h.pre b v c),Fw h.len hl.1,?_,λhn=>yr (h.nod hn) _,by simp[h.rl],λb f=>?_,λv c=>?_⟩
  .have:=h.le;dsimp only;omega
  .by_cases e:b=a
   .subst e
    refine⟨_,by rw[← h.rl];simp,i,j⟩
   .obtain⟨x,g,m,n⟩:=h.at_ b (by omega)
    have l:=(DX.1 g).1
    exact⟨x,by rw[Es l];exact g,m,wT n⟩
  .rcases Ay c with c|c
   .rcases h.mem v c with k|⟨b,f,e⟩
    .exact .inl k
    .exact .inr ⟨b,by omega,e⟩
   .exact .inr ⟨a,by omega,c⟩
def c9 (ps:VP) (v i:Int):Bool:=match idx ps i with | some p=>decide (v∈p.Give) | none=>false
def askI (ps:VP) (v i:Int):Bool:=match idx ps i with | some p=>decide (v∈p.Ask) | none=>false
def fG (ps:VP) (rc:VI) (v:Int):VI:=rc.filter (c9 ps v)++rc.filter λa=> !c9 ps v a
def dh (f:Int->Bool) (xs:VI):Nat->Int
 |0=> -1
 |j+1=>bif (match xs[j]? with | some x=>f x | none=>false) then(j:Int) else dh f xs j
def lh (ps:VP) (rc:VI) (v:Int):Int:=
 bif decide (dh (askI ps v) rc rc.length<0)&&decide (dh (c9 ps v) rc rc.length<0) then 0
 else bif decide (dh (c9 ps v) rc rc.length<dh (askI ps v) rc rc.length) then 2 * dh (askI ps v) rc rc.length+1
 else 2 * dh (c9 ps v) rc rc.length+2
theorem iN (f:Int->Bool) (xs:VI):∀a:Nat,-1<=dh f xs a/\dh f xs a<a
 |0=>by unfold dh;omega
 |a+1=>by
  have:=iN f xs a
  unfold dh
  cases(match xs[a]? with | some x=>f x | none=>false) with
  |true=>rw[cond_true];omega
  |false=>rw[cond_false];omega
theorem A6 (ps:VP){rc:VI}(v:Int) (h:rc.length<=4):inR 41 (lh ps rc v)=true:=by
 have a:=iN (askI ps v) rc rc.length
 have g:=iN (c9 ps v) rc rc.length
 rw[dc]
 unfold lh
 generalize dh (askI ps v) rc rc.length=x at *
 generalize dh (c9 ps v) rc rc.length=y at *
 by_cases h1:x<0
 .by_cases c:y<0
  .simp[h1,c]
  .by_cases b:y<x
   .omega
   .simp only[h1,c,b,decide_true,decide_false,Bool.and_false,cond_false];omega
 .by_cases b:y<x
  .simp only[h1,b,decide_true,decide_false,Bool.false_and,cond_false,cond_true];omega
  .simp only[h1,b,decide_false,Bool.false_and,cond_false];omega
theorem ni (p:Int->Bool):∀xs:VI,(xs.filter p).length+(xs.filter λx=> !p x).length=xs.length
 | []=>rfl
 |x::xs=>by
  have:=ni p xs
  simp only[List.filter_cons]
  cases p x <;> simp <;> omega
theorem xD (ps:VP){rc:VI}{k:Nat}(v:Int) (hl:rc.length=k) (hr:∀x∈rc,0<=x/\x<(k:Int)):(fG ps rc v).length=k/\∀x∈fG ps rc v,0<=x/\x<(k:Int):=by
 unfold fG
 refine⟨by rw[DZ,ni,hl],λx a=>?_⟩
 rcases D2.1 a with h|h
 .exact hr x (Fk.1 h).1
 .exact hr x (Fk.1 h).1
theorem xC (ps:VP){rc:VI}(v:Int) (h:rc.Nodup):(fG ps rc v).Nodup:=by
 unfold fG
 rw[Fo]
 refine⟨h.sublist List.filter_sublist,h.sublist List.filter_sublist,λa ha d hb c=>?_⟩
 subst c
 have h1:=(Fk.1 ha).2
 have b:=(Fk.1 hb).2
 rw[h1]at b
 cases b
structure VOk (n k:Nat) (v:Place):Prop where
 a0:0<=v.At
 a1:v.At<(n:Int)
 rl:v.Record.length=k
 rin:∀x∈v.Record,0<=x/\x<(k:Int)
 nd:v.Record.Nodup
def kyR (ar rc:VI) (i:Nat):Place:=⟨ar.getD i 0,rc⟩
structure RowP (P:VL) (ar rc r:VI):Prop where
 asc:Asc r
 len:r.length=ar.length
 to:∀y∈r,0<=y/\∃u∈ar,P[y.toNat]? =some ⟨u,rc⟩
 has:∀u∈ar,∃y∈r,0<=y/\P[y.toNat]? =some ⟨u,rc⟩
theorem RowP.mono {P P':VL}{ar rc r:VI}(h:RowP P ar rc r) (hp:∀(i:Nat) v,P[i]? =some v->P'[i]? =some v):RowP P' ar rc r:=
 ⟨h.asc,h.len,λe g=>by
  obtain⟨a,d,b,c⟩:=h.to e g
  exact⟨a,d,b,hp _ _ c⟩,λd f=>by
  obtain⟨e,a,b,c⟩:=h.has d f
  exact⟨e,a,b,hp _ _ c⟩⟩
theorem yS {ar rc:VI}{P:VL}(hn:ar.Nodup):(ef (kyR ar rc) P ar.length).2.Nodup:=by
 have c:=nK (kyR ar rc) P ar.length
 generalize ef (kyR ar rc) P ar.length=G at *
 have hrl:=c.rl
 refine Fs.2 λa b i k j g=>?_
 obtain⟨x,d,_,m⟩:=c.at_ a (by omega)
 obtain⟨n,e,_,f⟩:=c.at_ b (by omega)
 rw[o7 i]at d
 rw[o7 k]at e
 have l:x=n:=by rw[← EU d,← EU e];exact g
 subst l
 rw[m]at f
 have:=congrArg Place.At (EU f)
 simp only[kyR,o5,o7 (show a<ar.length by omega),o7 (show b<ar.length by omega),Option.getD_some]at this
 exact(Fs.1 hn) a b (by omega) (by omega) j this
theorem Ck {ar rc:VI}{P:VL}{S:VI}(j:Asc S) (hl:S.length=ar.length) (hm:∀d,d∈S↔d∈(ef (kyR ar rc) P ar.length).2):RowP (ef (kyR ar rc) P ar.length).1 ar rc S:=by
 have e:=nK (kyR ar rc) P ar.length
 generalize ef (kyR ar rc) P ar.length=G at *
 have hrl:=e.rl
 have k:∀a,a<ar.length->kyR ar rc a=⟨ar.getD a 0,rc⟩/\ar.getD a 0∈ar:=λa b=>⟨rfl,by
  rw[o5,o7 b]
  exact FS b⟩
 refine⟨j,hl,λd m=>?_,λp l=>?_⟩
 .obtain⟨a,b⟩:=Ff ((hm d).1 m)
  have i:=(DX.1 b).1
  obtain⟨x,c,f,g⟩:=e.at_ a (by omega)
  rw[b]at c
  cases c
  obtain⟨n,o⟩:=k a (by omega)
  exact⟨f,_,o,by rw[g,n]⟩
 .obtain⟨a,b⟩:=Ff l
  have i:=(DX.1 b).1
  obtain⟨x,c,f,g⟩:=e.at_ a i
  refine⟨x,(hm x).2 (EF c),f,?_⟩
  rw[g]
  unfold kyR
  rw[o5,b];rfl
structure RecS (a:Arena) (ps:VP) (st:Place) (P:VL) (i:Nat) (O:VI) (N:VV) (Q:VI):Prop where
 nod:P.Nodup
 zero:P[0]? =some st
 il:i<=P.length
 ol:O.length=i
 nl:N.length=i
 ql:Q.length=i
 inn:∀v∈P,VOk a.Owner.length ps.length v
 row:∀(j:Nat) v,j<i->P[j]? =some v->O[j]? =idx a.Owner v.At/\Q[j]? =some (lh ps v.Record v.At)/\∃r ar,N[j]? =some r/\idx a.Next v.At=some ar/\RowP P ar (fG ps v.Record v.At) r
theorem RecS.init {a:Arena}{ps:VP}{st:Place}(h:VOk a.Owner.length ps.length st):RecS a ps st [st] 0 [] [] []:=
 ⟨by simp,rfl,by simp,rfl,rfl,rfl,λv c=>by rw[D4.1 c];exact h,λd v b=>absurd b (Fx d)⟩
theorem RecS.step {a:Arena}{ps:VP}{st:Place}{P:VL}{i:Nat}{O:VI}{N:VV}{Q:VI}(h:RecS a ps st P i O N Q){v:Place}(l:P[i]? =some v){ar:VI}(har:idx a.Next v.At=some ar) (D:∀b∈ar,0<=b/\b<(a.Owner.length:Int)){o:Int}(H:idx a.Owner v.At=some o){S:VI}
 (A:Asc S) (B:S.length=ar.length) (C:∀q,q∈S↔q∈(ef (kyR ar (fG ps v.Record v.At)) P ar.length).2):
 RecS a ps st (ef (kyR ar (fG ps v.Record v.At)) P ar.length).1 (i+1) (O++[o]) (N++[S]) (Q++[lh ps v.Record v.At]):=by
 have z:=Ck A B C
 have d:=nK (kyR ar (fG ps v.Record v.At)) P ar.length
 have m:=h.inn v (EF l)
 have hn:=xD ps v.At m.rl m.rin
 have F:∀x,x<ar.length->VOk a.Owner.length ps.length (kyR ar (fG ps v.Record v.At) x):=λx f=>by
  have hm:ar.getD x 0∈ar:=by
   rw[o5,o7 f]
   exact FS f
  obtain⟨K,L⟩:=D _ hm
  exact⟨K,L,hn.1,hn.2,xC ps v.At m.nd⟩
 generalize ef (kyR ar (fG ps v.Record v.At)) P ar.length=G at *
 have M:=(DX.1 l).1
 have h1:=h.ol
 have n:=h.nl
 have p:=h.ql
 have T:=d.len
 refine⟨d.nod h.nod,d.pre 0 _ h.zero,by omega,by simp[h1],by simp[n],by simp[p],λb e=>?_,λc b R e=>?_⟩
 .rcases d.mem b e with hm|⟨x,f,g⟩
  .exact h.inn b hm
  .rw[g];exact F x f
 .by_cases g:c=i
  .subst g
   have k:b=v:=by
    have:=d.pre c v l
    rw[e]at this
    exact EU this
   subst k
   refine⟨by rw[← h1,H];simp,by rw[← p];simp,S,ar,by rw[← n];simp,har,z⟩
  .have E:c<i:=by omega
   have j:P[c]? =some (P[c]'(by omega)):=o7 (by omega)
   have k:b=P[c]'(by omega):=by
    have:=d.pre c _ j
    rw[e]at this
    exact EU this
   rw[← k]at j
   obtain⟨s,t,I,r,u,w,y⟩:=h.row c b E j
   exact⟨by rw[Es (by omega)];exact s,by rw[Es (by omega)];exact t,I,r,by rw[Es (by omega)];exact u,w,y.mono d.pre⟩
structure RecG (a:Arena) (ps:VP) (st:Place) (P:VL) (g:Parity):Prop where
 game:RecS a ps st P P.length g.Arena.Owner g.Arena.Next g.Prio
 le:P.length<=256
theorem RecG.ok {a:Arena}{ps:VP}{st:Place}{P:VL}{g:Parity}(h:RecG a ps st P g) (ha:ed a=true) (r:∀l∈a.Owner,inR 2 l=true) (q:∀(i:Nat) row,a.Next[i]? =some row->1<=row.length/\row.length<=16) (hk:ps.length<=4):cT g=true:=by
 have hr:=h.game
 have h0:=(DX.1 hr.zero).1
 have h1:=hr.ol
 have A:=hr.nl
 have B:=hr.ql
 have C:=h.le
 have k:∀b:Nat,b<P.length->∃v,P[b]? =some v:=λb c=>⟨_,o7 c⟩
 refine Af (by omega) (by omega) (by omega) (by omega) (λrow t=>?_) (λl s=>?_) λx w=>?_
 .obtain⟨b,c⟩:=Ff t
  have p:=(DX.1 c).1
  obtain⟨v,d⟩:=k b (by omega)
  obtain⟨_,_,F,ar,o,f,j⟩:=hr.row b v (by omega) d
  rw[c]at o
  cases o
  have m:=(eK f).1
  rw[cB m]at f
  obtain⟨D,E⟩:=q _ _ f
  have hl:=j.len
  refine⟨by omega,by omega,fB.2 ⟨λz y=>?_,j.asc⟩⟩
  obtain⟨H,G,_,u⟩:=j.to z y
  have:=(DX.1 u).1
  omega
 .obtain⟨b,c⟩:=Ff s
  have p:=(DX.1 c).1
  obtain⟨v,d⟩:=k b (by omega)
  obtain⟨e,_⟩:=hr.row b v (by omega) d
  rw[c]at e
  have m:=(eK e.symm).1
  rw[cB m]at e
  exact r l (EF e.symm)
 .obtain⟨b,c⟩:=Ff w
  have p:=(DX.1 c).1
  obtain⟨v,d⟩:=k b (by omega)
  obtain⟨_,n,_⟩:=hr.row b v (by omega) d
  rw[c]at n
  cases n
  exact A6 ps v.At (by have:=(hr.inn v (EF d)).rl;omega)
def firstR (k:Nat):VI:=(FK k).map Int.ofNat
theorem vC (k:Nat):(firstR k).Nodup:=List.Pairwise.map _ (λ_ _ b a=>b (Int.ofNat.inj a)) List.nodup_range
theorem zl (row:VI) (v:Int):m6 row v=some (decide (v∈row)):=by
 unfold m6
 rw[cX (f:=mj row v) (r:=true) (xs:=row) (λx=> !(x==v)) rfl (λd x a=>by
  unfold mj
  rw[bH,a,Fz]
  cases x==v <;> rfl)]
 by_cases h:v∈row
 .rw[if_neg,decide_eq_true h];rfl
  rw[Fc]
  intro c
  have:=c v h
  simp at this
 .rw[if_pos,decide_eq_false h];rfl
  rw[Fc]
  intro x a
  simp only[Bool.not_eq_true',beq_eq_false_iff_ne,ne_eq]
  exact λb=>h (b ▸ a)
theorem DB (p0 p1:VI):jQ p0 p1=some (decide (p0=p1)):=by
 unfold jQ
 by_cases h:p0.length=p1.length
 .rw[show((p0.length:Int) !=(p1.length:Int))=false from by rw[h];simp,cond_false]
  rw[zi (f:=gC p0 p1) (r:=false) (λx b=>decide (x=b)) h (λg x b d e=>by
   unfold gC
   rw[bH,bH,d,e,Fz,Fz]
   by_cases a:x=b
   .subst a;simp
   .have c:(x==b)=false:=by simp[a]
    simp[bne,c,a])]
  rw[qm h]
  cases decide (p0=p1) <;> rfl
 .rw[show((p0.length:Int) !=(p1.length:Int))=true from by simp only[bne_iff_ne,ne_eq];omega,cond_true,decide_eq_false (λa=>h (by rw[a]))]
def qO (P:VL) (k:Place):Int:=match locR P k with | some a=>(a:Int) | none=> -1
theorem CH (P:VL) (u:Int) (rc:VI):pF P u rc=some (qO P ⟨u,rc⟩):=by
 unfold pF
 rw[eH (f:=kB P u rc) (λx=>x.At==u&&x.Record==rc) (λb=>(b:Int)) (xs:=P) (λb x c=>by
  unfold kB
  rw[bH,c,Fz]
  by_cases h1:x.At=u
  .rw[show(x.At==u)=true from by simpa using h1,cond_true,Fz,DB]
   by_cases a:x.Record=rc
   .rw[decide_eq_true a,show(x.Record==rc)=true from by simpa using a];rfl
   .rw[decide_eq_false a,show(x.Record==rc)=false from by simpa using a];rfl
  .rw[show(x.At==u)=false from by simpa using h1];rfl)]
 unfold qO locR
 cases P.findIdx? (λx=>x.At==u&&x.Record==rc) <;> rfl
section
variable {ps:VP}{rc:VI}(hr:∀x∈rc,0<=x/\x<(ps.length:Int)) (hl:rc.length<=1000)
include hr hl
theorem CZ (v:Int):kS ps rc v=some (fG ps rc v):=by
 unfold kS
 obtain⟨d,h1,g⟩:=bR (f:=gD ps rc v) (λa (d:VI×VI)=>d=((rc.take a).filter (c9 ps v),(rc.take a).filter λb=> !c9 ps v b)) rc.length (s:=([],[])) rfl (λa d j hs=>by
  subst hs
  have c:rc[a]? =some rc[a]:=o7 j
  generalize rc[a]=x at c
  obtain⟨m,n⟩:=hr x (EF c)
  obtain⟨p,hp,_⟩:=eB (xs:=ps) m n
  have i:c9 ps v x=decide (v∈p.Give):=by unfold c9;rw[hp]
  have k:((rc.take a).filter (c9 ps v)).length<=1000:=Fw (Fg ..) (by rw[EB];omega)
  have l:((rc.take a).filter λb=> !c9 ps v b).length<=1000:=Fw (Fg ..) (by rw[EB];omega)
  unfold gD
  rw[bH,c,Fz,hp,Fz,zl,← i,Fz,Ft,c]
  simp only[Option.toList_some,List.filter_append]
  cases e:c9 ps v x with
  |true=>
   simp only[cond_true,Fz]
   rw[app1 (by omega) rfl]
   exact⟨_,rfl,by simp[e]⟩
  |false=>
   simp only[cond_false,Fz]
   rw[app1 (by omega) rfl]
   exact⟨_,rfl,by simp[e]⟩)
 rw[h1,g,Fz,bK,Fv]
 have k:(rc.filter (c9 ps v)).length<=1000:=Fw (Fg ..) hl
 have l:(rc.filter λb=> !c9 ps v b).length<=1000:=Fw (Fg ..) hl
 dsimp only
 rw[appL (by omega) rfl];rfl
theorem Da (v:Int):kT ps rc v=some (lh ps rc v):=by
 unfold kT
 obtain⟨d,h1,j⟩:=bR (f:=gE ps rc v) (λb (d:Int×Int)=>d=(dh (askI ps v) rc b,dh (c9 ps v) rc b)) rc.length (s:=(-1,-1)) rfl (λb d l hs=>by
  subst hs
  have c:rc[b]? =some rc[b]:=o7 l
  generalize rc[b]=x at c
  obtain⟨m,n⟩:=hr x (EF c)
  obtain⟨p,hp,_⟩:=eB (xs:=ps) m n
  have k:c9 ps v x=decide (v∈p.Give):=by unfold c9;rw[hp]
  have ha:askI ps v x=decide (v∈p.Ask):=by unfold askI;rw[hp]
  have e:dh (askI ps v) rc (b+1)=bif askI ps v x then(b:Int) else dh (askI ps v) rc b:=by
   show(bif (match rc[b]? with | some x=>askI ps v x | none=>false) then(b:Int) else _)=_
   rw[c]
  have i:dh (c9 ps v) rc (b+1)=bif c9 ps v x then(b:Int) else dh (c9 ps v) rc b:=by
   show(bif (match rc[b]? with | some x=>c9 ps v x | none=>false) then(b:Int) else _)=_
   rw[c]
  refine⟨_,?_,rfl⟩
  unfold gE
  simp only[bH,c,Fz,hp,zl,← k,← ha]
  rw[e,i]
  cases askI ps v x <;> cases c9 ps v x <;> rfl)
 rw[h1,j,Fz,bK]
 have a:=iN (askI ps v) rc rc.length
 have g:=iN (c9 ps v) rc rc.length
 unfold lh
 dsimp only
 generalize dh (askI ps v) rc rc.length=x at *
 generalize dh (c9 ps v) rc rc.length=y at *
 rw[wr' (z:=2 * x) (by omega) (by omega),wr' (z:=2 * x+1) (by omega) (by omega),wr' (z:=2 * y) (by omega) (by omega),wr' (z:=2 * y+2) (by omega) (by omega)]
 cases decide (x<0) <;> cases decide (y<0) <;> cases decide (y<x) <;> rfl
end
theorem Bq {xs:VI}(hn:xs.Nodup) (hl:xs.length<=1000):∃o,ml xs=some o/\Asc o/\o.length=xs.length/\∀c,c∈o↔c∈xs:=by
 unfold ml
 obtain⟨a,h1,z,A,B⟩:=bR (f:=iX xs) (λl (a:VI)=>Asc a/\a.length=l/\∀c,c∈a↔c∈xs.take l) xs.length (s:=[]) ⟨List.Pairwise.nil,rfl,λc=>by simp⟩ (λl a v ⟨p,y,u⟩=>by
  have n:xs[l]? =some xs[l]:=o7 v
  have P:=n
  generalize hxe:xs[l]=x at n
  have q:x∉a:=λhm=>by
   obtain⟨b,i⟩:=Ff ((u x).1 hm)
   have C:=(DX.1 i).1
   rw[EB]at C
   rw[List.getElem?_take,if_pos (by omega),o7 (by omega)]at i
   have:=(Fs.1 hn) b l (by omega) v (by omega)
   exact this ((EU i).trans hxe.symm)
  obtain⟨K,N,O⟩:=cE (f:=iY xs (l:Int) a) (λw (k:Int)=>∃m:Nat,k=(m:Int)/\m+w=a.length/\∀(b:Nat) d,m<=b->a[b]? =some d->x<d) (λ_=>False) (λk=>∃m:Nat,k=(m:Int)/\m<=a.length/\(∀(b:Nat) d,m<=b->a[b]? =some d->x<d)/\∀(b:Nat) d,b<m->a[b]? =some d->d<x) a.length (λw k ⟨m,e,hm,i⟩=>by
   subst e
   unfold iY
   by_cases h0:0<m
   .have j:a[m-1]? =some (a[m-1]'(by omega)):=o7 (by omega)
    generalize a[m-1]'(by omega)=d at j
    have E:ET .i64 ((m:Int)-1)=((m-1:Nat):Int):=by rw[wr' (by omega) (by omega)];omega
    rw[decide_eq_true (show(0:Int)<(m:Int) by omega),cond_true,E,bH,j,Fz,bH,n,Fz,Fz]
    by_cases t:x<d
    .rw[decide_eq_true t,cond_true]
     refine⟨_,rfl,by omega,m-1,rfl,by omega,λb c s g=>?_⟩
     by_cases e:b=m-1
     .subst e
      rw[j]at g
      cases g
      exact t
     .exact i b c (by omega) g
    .rw[decide_eq_false t,cond_false]
     refine⟨_,rfl,m,rfl,by omega,i,λb c s g=>?_⟩
     have F:d<x:=by
      have:d≠x:=λe=>q (e ▸ EF j)
      omega
     by_cases e:b=m-1
     .subst e
      rw[j]at g
      cases g
      exact F
     .have:=lI p g j (by omega)
      omega
   .have D:m=0:=by omega
    subst D
    rw[decide_eq_false (show ¬(0:Int)<((0:Nat):Int) by omega),cond_false,Fz,cond_false]
    exact⟨_,rfl,0,rfl,by omega,i,λb c s _=>absurd s (Fx b)⟩) (2 ^ 64) 0 (a.length:Int) (by omega) ⟨a.length,rfl,by omega,λb d i j=>by
    have:=(DX.1 j).1
    omega⟩ (by omega)
  match K,O with
  |.inr k,⟨m,e,G,H,I⟩=>
   subst e
   unfold iX
   have L:subS a 0 (m:Int)=some (a.take m):=by
    unfold subS
    rw[if_pos ⟨by omega,by omega,by omega⟩]
    simp
   have M:subS a (m:Int) (a.length:Int)=some (a.drop m):=by
    unfold subS
    rw[if_pos ⟨by omega,by omega,by omega⟩]
    simp
   have Q:(a.take m).length<=1000:=by rw[EB];omega
   have R:(a.drop m).length<=1000:=by rw[List.length_drop];omega
   rw[N,Fz,bK,L,Fz,appL (by simp;omega) rfl,Fz,bH,n,Fz,FU,app1 (by omega) rfl,Fz,M,Fz,appL (by rw[DZ];simp only[D0,Fi];omega) rfl,Fz]
   have r:(a.take m++[x])++a.drop m=ins x a:=by
    rw[Ej]
    exact zm p q G I (λc g=>H m c (Ec _) g)
   refine⟨_,rfl,?_,?_,λc=>?_⟩
   .rw[r];exact sI p
   .rw[r,yE q p,y]
   .rw[r,sJ q,u,Ft,n]
    simp only[Option.toList_some,D2,D4]
    constructor
    .rintro(h|h)
     .exact .inr h
     .exact .inl h
    .rintro(h|h)
     .exact .inr h
     .exact .inl h)
 rw[h1,Fz,bK]
 exact⟨a,rfl,z,A,λc=>by rw[B,Fv]⟩
theorem tQ {P:VL}{k:Place}:(qO P k<0->addR P k=P++[k]/\atR P k=(P.length:Int))/\(¬qO P k<0->addR P k=P/\atR P k=qO P k):=by
 unfold qO addR atR
 cases locR P k with
 |none=>exact⟨λ_=>⟨rfl,rfl⟩,λh=>absurd (by show(-1:Int)<0;omega) h⟩
 |some a=>exact⟨λh=>absurd h (by show ¬((a:Int)<0);omega),λ_=>⟨rfl,rfl⟩⟩
theorem An (a:Nat->Place) (K:VL):∀{i j:Nat},i<=j->(ef a K i).1.length<=(ef a K j).1.length:=by
 intro i j h
 induction h with
 |refl=>exact Ec _
 |step h b=>
  refine Fw b ?_
  show _<=(addR _ _).length
  exact(wU _ _).1
theorem conR (l:VI) (v:Int):bP l v=some (decide (v∈l)):=by
 rw[cU]
 congr 1
 rw[E4]
 simp
theorem B3 (ps:VP) (rc:VI) (v:Int):kl ps rc v=kS ps rc v:=by
 have h:g6 ps rc v=gD ps rc v:=by
  funext j s
  unfold g6 gD
  cases idx rc j with
  |none=>rfl
  |some x=>
   simp only[Fz]
   cases idx ps x with
   |none=>rfl
   |some p=>simp only[Fz,zl,conR]
 unfold kl kS
 rw[h]
theorem Ca (ps:VP) (rc:VI) (v:Int):ko ps rc v=kT ps rc v:=by
 have h:g7 ps rc v=gE ps rc v:=by
  funext j s
  unfold g7 gE
  cases idx rc j with
  |none=>rfl
  |some x=>
   simp only[Fz]
   cases idx ps x with
   |none=>rfl
   |some p=>simp only[Fz,zl,conR]
 unfold ko kT
 rw[h]
theorem yN (P:VL) (u:Int) (rc:VI):pq P u rc=some (qO P ⟨u,rc⟩):=by
 unfold pq
 rw[eh (λx=>x.At==u&&x.Record==rc) (λx _=>by
  unfold lW
  by_cases h1:x.At=u
  .rw[show(x.At==u)=true from by simpa using h1,cond_true,nc]
   by_cases a:x.Record=rc
   .rw[decide_eq_true a,show(x.Record==rc)=true from by simpa using a];rfl
   .rw[decide_eq_false a,show(x.Record==rc)=false from by simpa using a];rfl
  .rw[show(x.At==u)=false from by simpa using h1];rfl)]
 rfl
def noRec:Parity×VL×Bool:=(⟨⟨[],[]⟩,[]⟩,[],false)
section
variable {a:Arena}{v:Place}{ar rc:VI}{P:VL}(har:idx a.Next v.At=some ar) (hal:ar.length<=16) (hrl:rc.length<=4)
include har hal hrl
theorem Dx (r:P.length<=256):∃i,bQ (gU a v rc) (2 ^ 64) (P,[],0)=some i/\(match i with
 |.inl j=>j=noRec/\256<(ef (kyR ar rc) P ar.length).1.length
 |.inr c=>c.1=(ef (kyR ar rc) P ar.length).1/\c.2.1=(ef (kyR ar rc) P ar.length).2/\(ef (kyR ar rc) P ar.length).1.length<=256):=by
 obtain⟨i,y,z⟩:=cE (f:=gU a v rc) (λb (c:VL×VI×Int)=>c=((ef (kyR ar rc) P b).1,(ef (kyR ar rc) P b).2,(b:Int))/\b<=ar.length/\(ef (kyR ar rc) P b).1.length<=256) (λj=>j=noRec/\256<(ef (kyR ar rc) P ar.length).1.length)
  (λc=>c.1=(ef (kyR ar rc) P ar.length).1/\c.2.1=(ef (kyR ar rc) P ar.length).2/\(ef (kyR ar rc) P ar.length).1.length<=256) ar.length (λb c ⟨q,A,p⟩=>by
  subst q
  have x:=nK (kyR ar rc) P b
  have B:=x.rl
  unfold gU
  dsimp only
  rw[har,Fz]
  by_cases s:b<ar.length
  .have n:ar[b]? =some ar[b]:=o7 s
   have m:kyR ar rc b=⟨ar[b],rc⟩:=by unfold kyR;rw[o5,n];rfl
   generalize ar[b]=u at n m
   obtain⟨t,w⟩:=tQ (P:=(ef (kyR ar rc) P b).1) (k:=kyR ar rc b)
   have e:ef (kyR ar rc) P (b+1)=(addR (ef (kyR ar rc) P b).1 (kyR ar rc b),(ef (kyR ar rc) P b).2++[atR (ef (kyR ar rc) P b).1 (kyR ar rc b)]):=rfl
   have hm:=An (kyR ar rc) P (show b+1<=ar.length by omega)
   rw[decide_eq_true (show(b:Int)<(ar.length:Int) by omega),cond_true,Fz,bH,n,Fz,CH,← m,Fz]
   by_cases g:qO (ef (kyR ar rc) P b).1 (kyR ar rc b)<0
   .obtain⟨d,l⟩:=t g
    rw[e,d]at hm
    simp only[DZ,D0,Fi]at hm
    by_cases o:(256:Int)<=((ef (kyR ar rc) P b).1.length:Int)
    .rw[decide_eq_true g,cond_true,decide_eq_true o,cond_true]
     exact⟨_,rfl,rfl,by omega⟩
    .rw[decide_eq_true g,cond_true,decide_eq_false o,cond_false,appL (by simp;omega) rfl,Fz,FU,app1 (by omega) rfl,Fz,Fz,bK]
     dsimp only
     rw[app1 (by omega) rfl,Fz,wr' (by omega) (by omega)]
     refine⟨_,rfl,by omega,?_,by omega,?_⟩
     .rw[e,d,l,← m];rfl
     .rw[e,d,DZ];simp only[D0,Fi];omega
   .obtain⟨d,l⟩:=w g
    rw[decide_eq_false g,cond_false,Fz,bK]
    dsimp only
    rw[app1 (by omega) rfl,Fz,wr' (by omega) (by omega)]
    refine⟨_,rfl,by omega,?_,by omega,?_⟩
    .rw[e,d,l];rfl
    .rw[e,d];exact p
  .have:b=ar.length:=by omega
   subst this
   rw[decide_eq_false (show ¬((ar.length:Nat):Int)<(ar.length:Int) by omega),cond_false]
   exact⟨_,rfl,rfl,rfl,p⟩) (2 ^ 64) 0 (P,[],0) (by omega) ⟨rfl,Nat.zero_le _,r⟩ (by omega)
 exact⟨i,y,by
  match i,z with
  |.inl j,h=>exact h
  |.inr c,h=>exact h⟩
omit har in
theorem CR (q:P.length<=1000):cntM (bU rc ar) ar.length 0 (P,[])=some (.inr (ef (kyR ar rc) P ar.length)):=by
 obtain⟨c,h1,m⟩:=bR (f:=bU rc ar) (λa c=>c=ef (kyR ar rc) P a) ar.length (s:=(P,[])) rfl (λa c n l=>by
  subst l
  have j:=nK (kyR ar rc) P a
  have s:=j.rl
  have r:=j.le
  have i:ar[a]? =some ar[a]:=o7 n
  have g:kyR ar rc a=⟨ar[a],rc⟩:=by unfold kyR;rw[o5,i];rfl
  generalize ar[a]=u at i g
  obtain⟨o,p⟩:=tQ (P:=(ef (kyR ar rc) P a).1) (k:=kyR ar rc a)
  refine⟨_,?_,rfl⟩
  unfold bU
  rw[bH,i,Fz,yN,← g,Fz]
  show _=some (Sum.inr (Sum.inr (addR (ef (kyR ar rc) P a).1 (kyR ar rc a),(ef (kyR ar rc) P a).2++[atR (ef (kyR ar rc) P a).1 (kyR ar rc a)])))
  by_cases b:qO (ef (kyR ar rc) P a).1 (kyR ar rc a)<0
  .obtain⟨d,e⟩:=o b
   rw[decide_eq_true b,cond_true,appL (by simp;omega) rfl,Fz,FU,app1 (by omega) rfl,Fz,Fz]
   dsimp only
   rw[app1 (by omega) rfl,Fz,d,e,← g]
  .obtain⟨d,e⟩:=p b
   rw[decide_eq_false b,cond_false,Fz]
   dsimp only
   rw[app1 (by omega) rfl,Fz,d,e])
 rw[h1,m]
end
theorem vw {a:Arena}(ha:ed a=true):cT ⟨a,EH a.Owner.length 0⟩=true:=by
 unfold cT
 dsimp only
 rw[ha,EA,beq_self_eq_true,E7,E7,Fc]
 intro x b
 rw[(List.mem_replicate.1 b).2];rfl
theorem uQ {a:Arena}(ha:ed a=true):1<=a.Owner.length/\a.Owner.length<=256/\(∀(i:Nat) row,a.Next[i]? =some row->1<=row.length/\row.length<=16)/\(∀b∈a.Owner,inR 2 b=true) /\
 ∀v:Int,0<=v->v<(a.Owner.length:Int)->∃ar b,idx a.Next v=some ar/\idx a.Owner v=some b/\1<=ar.length/\ar.length<=16/\Asc ar/\∀g∈ar,0<=g/\g<(a.Owner.length:Int):=by
 have hp:=vw ha
 obtain⟨h1,e,j,_,c⟩:=dY hp
 dsimp only at h1 e j c
 refine⟨h1,e,λi row hr=>⟨(c i row hr).1,(c i row hr).2.1⟩,(ua hp).1,λv d q=>?_⟩
 obtain⟨ar,har,_⟩:=eB (xs:=a.Next) d (by omega)
 obtain⟨b,k,_⟩:=eB (xs:=a.Owner) d q
 have f:=har
 rw[cB d]at f
 obtain⟨l,m,n⟩:=c _ ar f
 obtain⟨o,p⟩:=fB.1 n
 exact⟨ar,b,har,k,l,m,p,o⟩
def ManyP (n k:Nat):Prop:=∃P:VL,256<P.length/\P.Nodup/\∀v∈P,VOk n k v
section
variable {a:Arena}{ps:VP}{st:Place}(ha:ed a=true) (hk:ps.length<=4)
include ha hk
theorem Ba (M:VOk a.Owner.length ps.length st):(bQ (fx a ps) (2 ^ 64) ([st],0,[],[],[])=some (.inl noRec)/\bQ (bS a ps) (2 ^ 64) ([st],0,[],[],[])=some (.inl noRec)/\ManyP a.Owner.length ps.length) \/
 ∃b:VL×Int×VI×VV×VI,bQ (fx a ps) (2 ^ 64) ([st],0,[],[],[])=some (.inr b)/\bQ (bS a ps) (2 ^ 64) ([st],0,[],[],[])=some (.inr b)/\RecG a ps st b.1 ⟨⟨b.2.2.1,b.2.2.2.1⟩,b.2.2.2.2⟩:=by
 obtain⟨_,_,_,_,D⟩:=uQ ha
 obtain⟨R,i,r,s,j⟩:=ng (f:=fx a ps) (g:=bS a ps) (λb i=>b=i/\∃c:Nat,b.2.1=(c:Int)/\RecS a ps st b.1 c b.2.2.1 b.2.2.2.1 b.2.2.2.2/\b.1.length<=256) (λb=>300-b.2.1.toNat) (λo z=>o=noRec/\z=noRec/\ManyP a.Owner.length ps.length)
  (λb i=>b=i/\RecG a ps st b.1 ⟨⟨b.2.2.1,b.2.2.2.1⟩,b.2.2.2.2⟩) (λb i ⟨m,c,k,d,hl⟩=>by
  subst m
  obtain⟨P,Z,O,N,Q⟩:=b
  dsimp only at k d hl
  subst k
  unfold fx bS
  dsimp only
  by_cases H:c<P.length
  .have l:P[c]? =some P[c]:=o7 H
   generalize P[c]=v at l
   have e:=d.inn v (EF l)
   obtain⟨ar,ah,har,w,ag,y,F,G⟩:=D v.At e.a0 e.a1
   have af:=e.rl
   have t:=CZ (ps:=ps) (rc:=v.Record) e.rin (by omega) v.At
   have x:=Da (ps:=ps) (rc:=v.Record) e.rin (by omega) v.At
   have ae:=xD ps v.At e.rl e.rin
   obtain⟨S,X,Y⟩:=Dx (a:=a) (v:=v) (ar:=ar) (rc:=fG ps v.Record v.At) (P:=P) har y (by omega) hl
   have k:=CR (ar:=ar) (rc:=fG ps v.Record v.At) (P:=P) y (by omega) (by omega)
   have u:=yS (ar:=ar) (rc:=fG ps v.Record v.At) (P:=P) (ik F)
   have U:=nK (kyR ar (fG ps v.Record v.At)) P ar.length
   have hrl:=U.rl
   obtain⟨C,V,A,W,B⟩:=Bq u (by omega)
   have L:cq (ef (kyR ar (fG ps v.Record v.At)) P ar.length).2=some C:=by
    unfold cq
    rw[if_pos ⟨by omega,by omega⟩]
    exact congrArg some (oo (yh u) A λZ=>by rw[List.mem_mergeSort,B])
   have n:=d.step l har G w A (by rw[W,hrl]) B
   have aa:=d.ol
   have ab:=d.nl
   have ac:=d.ql
   have I:kp v ps=some (fG ps v.Record v.At):=by
    unfold kp
    rw[B3,t];rfl
   have K:kq v ps=some (lh ps v.Record v.At):=by
    unfold kq
    rw[Ca,x];rfl
   rw[decide_eq_true (show(c:Int)<(P.length:Int) by omega),cond_true,cond_true,bH,l,Fz,Fz,t,Fz,X,Fz,I,Fz,har,Fz,k,Fz,bK]
   match S,Y with
   |.inl o,⟨p,q⟩=>
    subst p
    rw[decide_eq_true (show(256:Int)<((ef (kyR ar (fG ps v.Record v.At)) P ar.length).1.length:Int) by omega),cond_true]
    exact⟨_,_,rfl,rfl,rfl,rfl,_,q,n.nod,n.inn⟩
   |.inr b,⟨p,q,T⟩=>
    rw[bK,p,q,V,w,Fz,decide_eq_false (show ¬(256:Int)<((ef (kyR ar (fG ps v.Record v.At)) P ar.length).1.length:Int) by omega),cond_false,L,K]
    simp only[Fz]
    unfold nB
    dsimp only
    rw[app1 (xs:=O) (by omega) rfl,app1 (xs:=N) (by omega) rfl,x]
    simp only[Fz]
    rw[app1 (xs:=Q) (by omega) rfl,wr' (by omega) (by omega)]
    refine⟨_,_,rfl,rfl,⟨rfl,c+1,by dsimp only;omega,n,T⟩,?_⟩
    dsimp only
    omega
  .rw[decide_eq_false (show ¬(c:Int)<(P.length:Int) by omega),cond_false,cond_false]
   have ad:=d.il
   have:c=P.length:=by omega
   subst this
   exact⟨_,_,rfl,rfl,rfl,d,hl⟩) (2 ^ 64) (2 ^ 64) ([st],0,[],[],[]) ([st],0,[],[],[]) (by dsimp only;omega) (by dsimp only;omega) ⟨rfl,0,rfl,RecS.init M,by simp⟩
 match R,i,j with
 |.inl o,.inl z,j=>
  rw[j.1]at r
  rw[j.2.1]at s
  exact .inl ⟨r,s,j.2.2⟩
 |.inr b,.inr i,⟨m,E⟩=>
  subst m
  exact .inr ⟨b,r,s,E⟩
end
theorem BG (k:Nat):cntM fw k 0 []=some (.inr (firstR k))\/1000<k:=by
 by_cases hk:1000<k
 .exact .inr hk
 .obtain⟨a,h1,d⟩:=bR (f:=fw) (λb a=>a=firstR b) k (s:=[]) rfl (λb a e c=>by
   subst c
   unfold fw
   rw[app1 (by unfold firstR;rw[Fh,FH];omega) rfl]
   exact⟨_,rfl,by unfold firstR;rw[FL,EC];rfl⟩)
  exact .inl (by rw[h1,d])
theorem ur {a:Arena}{ps:VP}{st:Int}(ha:ed a=true) (hp:pairsOk ps (a.Owner.length:Int)=true) (hb:∀x∈ps,x.Ask.length<=1000000000/\x.Give.length<=1000000000) (h0:0<=st) (h1:st<(a.Owner.length:Int)):
 (go a ps st=some noRec/\d8 a ps st=some noRec/\ManyP a.Owner.length ps.length)\/∃P g,RecG a ps ⟨st,firstR ps.length⟩ P g/\cT g=true/\go a ps st=some (g,P,true)/\d8 a ps st=some (g,P,true):=by
 obtain⟨r,s,n,o,_⟩:=uQ ha
 have hk:ps.length<=4:=by
  unfold pairsOk at hp
  rw[C8,decide_eq_true_eq]at hp
  omega
 have f:cntM fw ps.length 0 []=some (.inr (firstR ps.length)):=(BG ps.length).resolve_right (by omega)
 have j:cntM mC ps.length 0 []=some (.inr (firstR ps.length)):=f
 have l:VOk a.Owner.length ps.length ⟨st,firstR ps.length⟩:=⟨h0,h1,by unfold firstR;rw[Fh,FH],λx i=>by
  unfold firstR at i
  obtain⟨m,k,d⟩:=EE.1 i
  have:=FI.1 k
  have d:(m:Int)=x:=d
  omega,vC _⟩
 unfold go d8 cA
 rw[qV,ha,Fz,E5,cond_false,pZ (by omega) (by omega) hb,hp,Fz,Fz,E5,cond_false,dA,wr' (by omega) (by omega),decide_eq_true h0,decide_eq_true (show st<=(a.Owner.length:Int)-1 by omega),Bool.and_self,Fz,Fz,E5,cond_false,f,j,Fz,Fz,bK,bK]
 rcases Ba ha hk l with ⟨b,c,q⟩|⟨p,b,c,e⟩
 .left
  rw[b,c]
  exact⟨rfl,rfl,q⟩
 .right
  rw[b,c]
  exact⟨p.1,_,e,e.ok ha o n hk,rfl,rfl⟩
theorem qu {a:VI}{j:Nat}(h:j<a.length):a.toArray[j]! =a[j]:=by
 rw[getElem!_pos _ j (by simpa using h)]
 simp
theorem qq {b:VI}(h:b.Pairwise (·<=·)):∀m:Nat,m<=b.length->Asc (Lib.compactUpTo b.toArray m)/\∀f,f∈Lib.compactUpTo b.toArray m↔∃a:Nat,a<m/\b[a]? =some f
 |0,_=>⟨by simp[Lib.compactUpTo,Asc],λf=>by simp[Lib.compactUpTo]⟩
 |m+1,hm=>by
  obtain⟨l,i⟩:=qq h m (by omega)
  have q:∀(e a:Nat) (o:e<b.length) (p:a<b.length),e<=a->b[e]<=b[a]:=λe a o p u=>by
   rcases Nat.lt_or_ge e a with n|n
   .exact(Fs.1 h) e a o p n
   .have:e=a:=by omega
    subst this
    exact Int.le_refl _
  rw[Lib.compactUpTo_succ,qu (show m<b.length by omega)]
  have j:b[m]? =some b[m]:=o7 (by omega)
  cases hk:Lib.keeps b.toArray m with
  |true=>
   rw[if_pos rfl]
   refine⟨List.pairwise_append.2 ⟨l,List.pairwise_singleton ..,λx r z t=>?_⟩,λf=>?_⟩
   .rw[D4.1 t]
    obtain⟨a,g,c⟩:=(i x).1 r
    rw[o7 (show a<b.length by omega)]at c
    have r:=EU c
    have v:b[m]≠b[m-1]'(by omega):=λd=>by
     unfold Lib.keeps at hk
     rw[decide_eq_true_eq,qu (show m<b.length by omega),qu (show m-1<b.length by omega)]at hk
     rcases hk with hk|hk
     .omega
     .exact hk d
    have w:=q a (m-1) (by omega) (by omega) (by omega)
    have y:=q (m-1) m (by omega) (by omega) (by omega)
    omega
   .rw[D2,D4,i]
    constructor
    .rintro(⟨a,g,c⟩|rfl)
     .exact⟨a,by omega,c⟩
     .exact⟨m,by omega,j⟩
    .rintro⟨a,g,c⟩
     by_cases d:a=m
     .subst d
      rw[j]at c
      exact .inr (EU c).symm
     .exact .inl ⟨a,by omega,c⟩
  |false=>
   rw[if_neg (by simp),List.append_nil]
   refine⟨l,λf=>?_⟩
   rw[i]
   constructor
   .rintro⟨a,g,c⟩
    exact⟨a,by omega,c⟩
   .rintro⟨a,g,c⟩
    by_cases d:a=m
    .subst d
     have k:¬(a=0\/b.toArray[a]!≠b.toArray[a-1]!):=λs=>by
      unfold Lib.keeps at hk
      rw[decide_eq_true s]at hk
      cases hk
     rw[qu (show a<b.length by omega),qu (show a-1<b.length by omega)]at k
     have h0:a≠0:=λd=>k (.inl d)
     have h1:b[a]=b[a-1]'(by omega):=E8 λd=>k (.inr d)
     refine⟨a-1,by omega,?_⟩
     rw[o7 (show a-1<b.length by omega),← h1,← j,c]
    .exact⟨a,by omega,c⟩
theorem wY {b:VI}(h:b.Pairwise (·<=·)):Asc (Lib.compact b)/\∀c,c∈Lib.compact b↔c∈b:=by
 obtain⟨a,f⟩:=qq h b.length (Ec _)
 refine⟨a,λc=>?_⟩
 unfold Lib.compact
 rw[f]
 constructor
 .rintro⟨e,_,h⟩;exact EF h
 .intro g
  obtain⟨e,d⟩:=Ff g
  exact⟨e,(DX.1 d).1,d⟩
theorem oU {p:Sig}(hs:sigOk p=true){x o:Int}(e:0<=x) (f:x<pw p.In) (a:0<=o) (d:o<pw p.Out):gl p x o=some (o * pw p.In+x):=by
 have j:=eu p.In
 have k:=eu p.Out
 obtain⟨b,c⟩:=db hs
 have g:0<=o * pw p.In:=Int.mul_nonneg a (by omega)
 have i:o * pw p.In<=4 * 4:=Int.mul_le_mul (by omega) (by omega) (by omega) (by omega)
 unfold gl
 simp only[eb,hs,Fz,E5,cond_false,da b,da c]
 rw[wr' (z:=pw p.In-1) (by omega) (by omega),wr' (z:=pw p.Out-1) (by omega) (by omega),wr' (z:=o * pw p.In) (by omega) (by omega),wr' (by omega) (by omega)]
 simp only[dA,vI,Fz,dc.2 ⟨e,f⟩,dc.2 ⟨a,d⟩,E5,cond_false]
theorem dW {p:Sig}(hs:sigOk p=true):cJ p=some (pw p.In):=by
 obtain⟨a,_⟩:=db hs
 unfold cJ
 rw[(eZ a).1,Fz,(eZ a).2]
theorem qf:∀{xs ys:VI},xs.Nodup->(∀x∈xs,x∈ys)->xs.length<=ys.length
 | [],_,_,_=>Nat.zero_le _
 |x::xs,ys,hn,h=>by
  obtain⟨h1,d⟩:=List.nodup_cons.1 hn
  have a:=h x (Fj ..)
  have:=qf (ys:=ys.erase x) d λe b=>(List.mem_erase_of_ne (λc=>h1 (by rw[← c];exact b))).2 (h e (List.mem_cons_of_mem _ b))
  have f:=FT a
  rw[List.length_erase_of_mem a]at this
  simp only[D0]
  omega
theorem CG {m q b i d:Nat}(hi:i<m) (g:d<m) (h:q * m+i=b * m+d):q=b/\i=d:=by
 have e:∀{a c:Nat},a<c->a * m+m<=c * m:=λ{a c} h=>by
  have:=Nat.mul_le_mul_right m (show a+1<=c by omega)
  rwa [D6,FX]at this
 by_cases h1:q<b
 .have:=e h1;omega
 .by_cases f:b<q
  .have:=e f;omega
  .have:q=b:=by omega
   subst this
   exact⟨rfl,by omega⟩
theorem tf {n m q i:Nat}(a:q<n) (hi:i<m):q * m+i<n * m:=by
 have:=Nat.mul_le_mul_right m (show q+1<=n by omega)
 rw[D6,FX]at this
 omega
def SuccR (d:Det) (m k q i:Nat) (r:VI):Prop:=Asc r/\∀b,b∈r↔∃a:Nat,a<k/\b=tab d.Next q ((a * m+i:Nat):Int)
theorem SuccR.uniq {d:Det}{m k q i:Nat}{r b:VI}(h:SuccR d m k q i r) (a:SuccR d m k q i b):r=b:=oo h.1 a.1 λc=>by rw[h.2,a.2]
def rowQ (n m q:Nat):VI:=(FK m).map λa=>((n+q * m+a:Nat):Int)
structure ConA (d:Det) (n m k:Nat) (A:Arena):Prop where
 ol:A.Owner=EH n 1++EH (n * m) 0
 nl:A.Next.length=n+n * m
 r1:∀q:Nat,q<n->A.Next[q]? =some (rowQ n m q)
 r0:∀q i:Nat,q<n->i<m->∃r,A.Next[n+(q * m+i)]? =some r/\SuccR d m k q i r
section
variable {d:Det}{n m k:Nat}(hn:n<=48) (hn1:1<=n) (hm1:1<=m) (hm:m<=4) (hk1:1<=k) (hk:k<=4) (hd:d.Next.length=n) (hD:∀row∈d.Next,RowIn (n:Int) ((m * k:Nat):Int) row)
include hn hn1 hm1 hm hk1 hk hd hD
omit hn hn1 hk1 hk in
theorem qr {q i o:Nat}(c:q<n) (hi:i<m) (a:o<k):∃row,idx d.Next (q:Int)=some row/\idx row ((o * m+i:Nat):Int)=some (tab d.Next q ((o * m+i:Nat):Int))/\0<=tab d.Next q ((o * m+i:Nat):Int)/\tab d.Next q ((o * m+i:Nat):Int)<(n:Int):=by
 have h1:=tf (n:=k) a hi
 have b:k * m=m * k:=Nat.mul_comm _ _
 exact pe hD (by omega) (by omega) (by omega) (by omega)
theorem CE {A:Arena}(h:ConA d n m k A):ed A=true:=by
 have E:n * m<=48 * 4:=FW hn hm
 have F:A.Owner.length=n+n * m:=by rw[h.ol];simp
 have D:=h.nl
 unfold ed
 simp only[C8,decide_eq_true_eq,beq_iff_eq]
 refine⟨⟨⟨by omega,by omega⟩,by omega⟩,?_⟩
 rw[Fc]
 rintro⟨row,b⟩ c
 have c:=List.mem_zipIdx_iff_getElem?.1 c
 dsimp only at c ⊢
 have B:=(DX.1 c).1
 unfold vertOk
 by_cases i:b<n
 .have e:A.Owner[b]? =some 1:=by
   rw[h.ol,Es (by simpa using i),FF,if_pos i]
  rw[h.r1 b i]at c
  cases c
  have hl:(rowQ n m b).length=m:=by unfold rowQ;rw[Fh,FH]
  have hs:dm (A.Owner.length:Int) (rowQ n m b)=true:=by
   refine fB.2 ⟨λx c=>?_,?_⟩
   .unfold rowQ at c
    obtain⟨G,g,f⟩:=EE.1 c
    have:=FI.1 g
    have:=tf (n:=n) (m:=m) i this
    omega
   .unfold rowQ
    refine List.pairwise_map.2 (List.Pairwise.imp (λ{a o} y=>?_) List.pairwise_lt_range)
    omega
  rw[e,hs,hl]
  simp only[Bool.and_true,C8,decide_eq_true_eq]
  exact⟨⟨by decide,by omega⟩,by omega⟩
 .have p:b-n<n * m:=by omega
  have q:(b-n) / m<n:=(Nat.div_lt_iff_lt_mul (by omega)).2 p
  have g:(b-n) % m<m:=Nat.mod_lt _ (by omega)
  have f:(b-n) / m * m+(b-n) % m=b-n:=by rw[Nat.mul_comm];exact Nat.div_add_mod _ _
  obtain⟨H,r,s,l⟩:=h.r0 _ _ q g
  rw[f,show n+(b-n)=b by omega,c]at r
  cases r
  have e:A.Owner[b]? =some 0:=by
   rw[h.ol,Et (by simp;omega),EA,FF,if_pos p]
  have u:∀x∈row,0<=x/\x<(n:Int):=λx c=>by
   obtain⟨j,e,f⟩:=(l x).1 c
   obtain⟨_,_,_,a,o⟩:=qr hm1 hm hd hD q g e
   rw[f];exact⟨a,o⟩
  have hs:dm (A.Owner.length:Int) row=true:=fB.2 ⟨λx c=>by have:=u x c;omega,s⟩
  have C:1<=row.length:=FT ((l _).2 ⟨0,by omega,rfl⟩)
  have z:row.length<=k:=by
   -- each is one of k
   have t:=qf (ys:=(FK k).map λj=>tab d.Next ((b-n) / m:Nat) ((j * m+(b-n) % m:Nat):Int)) (ik s) λw v=>by
    obtain⟨j,e,f⟩:=(l w).1 v
    exact EE.2 ⟨j,FI.2 e,f.symm⟩
   rwa [Fh,FH]at t
  rw[e,hs]
  simp only[Bool.and_true,C8,decide_eq_true_eq]
  exact⟨⟨by decide,by omega⟩,by omega⟩
end
theorem xU {p:Sig}(hs:sigOk p=true):eY p=some (pw p.In):=by
 unfold eY
 rw[da (db hs).1];rfl
section
variable {p:Sig}{d:Det}(hs:sigOk p=true){n m k:Nat}(hn:n<=48) (hn1:1<=n) (hm:pw p.In=(m:Int)) (hk:pw p.Out=(k:Int)) (hd:d.Next.length=n) (hD:∀row∈d.Next,RowIn (n:Int) ((m * k:Nat):Int) row)
include hs hn hm hk hd hD
omit hn in
theorem Cs {q i:Nat}(z:q<n) (hi:i<m):∃t,nZ p d q i=some t/\SuccR d m k q i t:=by
 have L:=eu p.In
 have K:=eu p.Out
 unfold nZ
 obtain⟨b,F,G⟩:=cE (f:=jX p d q i) (λa (c:VI×Int)=>c.2=(a:Int)/\a<=k/\Asc c.1/\c.1.length<=a/\∀e,e∈c.1↔∃b:Nat,b<a/\e=tab d.Next q ((b * m+i:Nat):Int)) (λ_=>False) (λc=>SuccR d m k q i c.1) k (λa c ⟨r,I,j,w,l⟩=>by
  obtain⟨xs,b⟩:=c
  dsimp only at r j w l
  subst r
  unfold jX
  rw[da (db hs).2,Fz,hk]
  dsimp only
  by_cases y:a<k
  .obtain⟨row,C,D,_⟩:=qr (d:=d) (k:=k) (by omega) (by omega) hd hD z hi y
   obtain⟨R,E,u,v⟩:=tH j (tab d.Next q ((a * m+i:Nat):Int)) (by omega)
   have s:=oU hs (x:=(i:Int)) (o:=(a:Int)) (by omega) (by omega) (by omega) (by omega)
   have o:(a:Int) * (m:Int)+(i:Int)=((a * m+i:Nat):Int):=by simp
   rw[hm,o]at s
   rw[decide_eq_true (show(a:Int)<(k:Int) by omega),cond_true,C,Fz,s,Fz,D,Fz,E,Fz,wr' (by omega) (by omega)]
   have H:R.length<=xs.length+1:=qf (ys:=tab d.Next q ((a * m+i:Nat):Int)::xs) (ik u) λe A=>by
    rcases(v e).1 A with h|h
    .rw[h];exact Fj ..
    .exact List.mem_cons_of_mem _ h
   refine⟨_,rfl,by omega,by dsimp only;omega,by omega,u,by dsimp only;omega,λe=>?_⟩
   dsimp only
   rw[v,l]
   constructor
   .rintro(h|⟨b,B,g⟩)
    .exact⟨a,by omega,h⟩
    .exact⟨b,by omega,g⟩
   .rintro⟨b,B,g⟩
    by_cases o:b=a
    .subst o;exact .inl g
    .exact .inr ⟨b,by omega,g⟩
  .have:a=k:=by omega
   subst this
   rw[decide_eq_false (show ¬((a:Nat):Int)<(a:Int) by omega),cond_false]
   exact⟨_,rfl,j,l⟩) (2 ^ 64) 0 ([],0) (by omega) ⟨rfl,Nat.zero_le _,List.Pairwise.nil,Ec _,λe=>by simp⟩ (by omega)
 match b,G with
 |.inr c,h=>rw[F];exact⟨c.1,rfl,h⟩
omit hn hs in
theorem BL {q i:Nat}(C:q<n) (hi:i<m):∃xs r,cntM (fS d (m:Int) q i) k 0 []=some (.inr xs)/\0<xs.length/\xs.length<=4/\cq xs=some (xs.mergeSort λx c=>decide (x<=c))/\dt (xs.mergeSort λx c=>decide (x<=c))=some r/\SuccR d m k q i r:=by
 have K:=eu p.In
 have I:=eu p.Out
 obtain⟨xs,h1,y,z⟩:=bR (f:=fS d (m:Int) q i) (λb (l:VI)=>l.length=b/\∀g,g∈l↔∃e:Nat,e<b/\g=tab d.Next q ((e * m+i:Nat):Int)) k (s:=[]) ⟨rfl,λg=>by simp⟩ (λb l A ⟨s,t⟩=>by
  obtain⟨row,E,F,_⟩:=qr (d:=d) (k:=k) (by omega) (by omega) hd hD C hi A
  have hb:b * m<=4 * 4:=FW (by omega) (by omega)
  have o:(b:Int) * (m:Int)=((b * m:Nat):Int):=by simp
  unfold fS
  rw[E,Fz,o,wr' (z:=((b * m:Nat):Int)) (by omega) (by omega),wr' (by omega) (by omega),show((b * m:Nat):Int)+(i:Int)=((b * m+i:Nat):Int) by omega,F,Fz,app1 (by omega) rfl]
  refine⟨_,rfl,by rw[DZ,s];rfl,λg=>?_⟩
  rw[D2,D4,t]
  constructor
  .rintro(⟨e,D,j⟩|h)
   .exact⟨e,by omega,j⟩
   .exact⟨b,by omega,h⟩
  .rintro⟨e,D,j⟩
   by_cases o:e=b
   .subst o;exact .inr j
   .exact .inl ⟨e,by omega,j⟩)
 have B:(xs.mergeSort λx c=>decide (x<=c)).Pairwise (·<=·):=by
  have h:=List.pairwise_mergeSort (le:=λx c:Int=>decide (x<=c)) (λa u G h1 y=>by simp only[decide_eq_true_eq]at *;omega) (λa u=>by simp only[Bool.or_eq_true,decide_eq_true_eq];omega) xs
  exact h.imp λh=>by simpa using h
 have H:(xs.mergeSort λx c=>decide (x<=c)).length=xs.length:=List.length_mergeSort ..
 obtain⟨v,w⟩:=wY B
 refine⟨xs,_,h1,by omega,by omega,?_,?_,v,λg=>?_⟩
 .unfold cq
  rw[if_pos ⟨by omega,by omega⟩]
 .unfold dt
  rw[if_pos ⟨by omega,by omega⟩]
 .rw[w,List.mem_mergeSort,z]
omit hs hk hD in
theorem zT:cntM (gf d (m:Int)) n 0 ([],[])=some (.inr (EH n 1,(FK n).map (rowQ n m)))/\cntM (fO d (m:Int)) n 0 ([],[])=some (.inr (EH n 1,(FK n).map (rowQ n m))):=by
 have r:=eu p.In
 have hr:rng (m:Int)=some ():=by unfold rng;rw[if_pos (by omega)]
 have k:∀c:Nat,c<n->cntM (gg d (m:Int) c) m 0 []=some (.inr (rowQ n m c))/\cntM (fP d (m:Int) c) m 0 []=some (.inr (rowQ n m c)):=λc q=>by
  have hb:c * m<=48 * 4:=FW (by omega) (by omega)
  have e:(c:Int) * (m:Int)=((c * m:Nat):Int):=by simp
  have o:∀a:Nat,a<m->ET .i64 (ET .i64 ((d.Next.length:Int)+ET .i64 ((c:Int) * (m:Int)))+(a:Int))=((n+c * m+a:Nat):Int):=λa g=>by
   rw[e,wr' (z:=((c * m:Nat):Int)) (by omega) (by omega),wr' (z:=(d.Next.length:Int)+((c * m:Nat):Int)) (by omega) (by omega),wr' (by omega) (by omega)]
   omega
  have hl:∀a:Nat,((FK a).map λj=>((n+c * m+j:Nat):Int)).length=a:=λa=>by rw[Fh,FH]
  constructor
  .obtain⟨b,h1,i⟩:=bR (f:=gg d (m:Int) c) (λa b=>b=(FK a).map λj=>((n+c * m+j:Nat):Int)) m (s:=[]) rfl (λa b g e=>by
    subst e
    unfold gg
    rw[o a g,app1 (by rw[hl];omega) rfl]
    exact⟨_,rfl,by rw[FL,EC];rfl⟩)
   rw[h1,i];rfl
  .obtain⟨b,h1,i⟩:=bR (f:=fP d (m:Int) c) (λa b=>b=(FK a).map λj=>((n+c * m+j:Nat):Int)) m (s:=[]) rfl (λa b g e=>by
    subst e
    unfold fP
    rw[o a g,app1 (by rw[hl];omega) rfl]
    exact⟨_,rfl,by rw[FL,EC];rfl⟩)
   rw[h1,i];rfl
 have l:ES ((m:Int)-0)=m:=by omega
 constructor
 .obtain⟨b,h1,i⟩:=bR (f:=gf d (m:Int)) (λa b=>b=(EH a 1,(FK a).map (rowQ n m))) n (s:=([],[])) rfl (λa b g e=>by
   subst e
   unfold gf
   dsimp only
   rw[hr,Fz,l,(k a g).1,Fz,bK,app1 (by simp;omega) rfl,Fz,app1 (by simp;omega) rfl,Fz]
   exact⟨_,rfl,by rw[FV,FL,EC];rfl⟩)
  rw[h1,i]
 .obtain⟨b,h1,i⟩:=bR (f:=fO d (m:Int)) (λa b=>b=(EH a 1,(FK a).map (rowQ n m))) n (s:=([],[])) rfl (λa b g e=>by
   subst e
   unfold fO
   dsimp only
   rw[hr,Fz,l,(k a g).2,Fz,bK,app1 (by simp;omega) rfl,Fz,app1 (by simp;omega) rfl,Fz]
   exact⟨_,rfl,by rw[FV,FL,EC];rfl⟩)
  rw[h1,i]
def ConR (d:Det) (n m k c:Nat) (s:VI×VV):Prop:=s.1=EH n 1++EH c 0/\∃R,s.2=(FK n).map (rowQ n m)++R/\R.length=c/\∀b a:Nat,b<n->a<m->b * m+a<c->∃e,R[b * m+a]? =some e/\SuccR d m k b a e
theorem yy:∃b,cntM (gh p d (m:Int)) n 0 (EH n 1,(FK n).map (rowQ n m))=some (.inr b)/\cntM (fQ p d (m:Int)) n 0 (EH n 1,(FK n).map (rowQ n m))=some (.inr b)/\ConR d n m k (n * m) b:=by
 have ah:=eu p.In
 have ae:=eu p.Out
 have hr:rng (m:Int)=some ():=by unfold rng;rw[if_pos (by omega)]
 have T:rng (k:Int)=some ():=by unfold rng;rw[if_pos (by omega)]
 have Q:ES ((m:Int)-0)=m:=by omega
 have P:ES ((k:Int)-0)=k:=by omega
 obtain⟨W,A⟩:=eZ (db hs).2
 rw[hk]at A
 have ad:n * m<=48 * 4:=FW hn (by omega)
 obtain⟨b,e,h1,M,N,O⟩:=vy (f:=gh p d (m:Int)) (g:=fQ p d (m:Int)) (λc b e=>b=e/\ConR d n m k (c * m) b) n (s:=(EH n 1,(FK n).map (rowQ n m))) (t:=(EH n 1,(FK n).map (rowQ n m))) ⟨rfl,by rw[Nat.zero_mul];exact⟨by simp,[],by simp,rfl,λc i _ _ h=>absurd h (Fx _)⟩⟩ (λc b e r ⟨j,q⟩=>by
  subst j
  obtain⟨z,aj,F,H,K,L⟩:=vy (f:=gi p d c) (g:=fR p d (m:Int) c) (λi b e=>b=e/\ConR d n m k (c * m+i) b) m (s:=b) (t:=b) ⟨rfl,q⟩ (λi b e l ⟨j,q⟩=>by
   subst j
   obtain⟨s,R,t,o,C⟩:=q
   obtain⟨x,V,y⟩:=Cs hs hm hk hd hD r l
   obtain⟨xs,ai,X,ak,al,Y,Z,aa⟩:=BL hm hk hd hD r l
   have:=y.uniq aa
   subst this
   have ab:=tf (n:=n) r l
   have af:b.1.length=n+(c * m+i):=by rw[s];simp
   have ag:b.2.length=n+(c * m+i):=by rw[t];simp[o]
   unfold gi fR
   rw[app1 (xs:=b.1) (by omega) rfl,V,W,A,T,P,X]
   simp only[Fz,bK]
   rw[Y,app1 (xs:=b.2) (by omega) rfl]
   simp only[Fz]
   rw[Z,Fz,app1 (xs:=b.2) (by omega) rfl,Fz]
   refine⟨_,_,rfl,rfl,rfl,?_,R++[x],?_,by rw[DZ,o];rfl,λw v S u ac=>?_⟩
   .dsimp only
    rw[s,← Nat.add_assoc,FV,Ej]
   .dsimp only
    rw[t,Ej]
   .by_cases j:w * m+v=c * m+i
    .obtain⟨D,E⟩:=CG u l j
     subst D E
     exact⟨x,by rw[← o];simp,y⟩
    .obtain⟨U,a,B⟩:=C w v S u (by omega)
     exact⟨U,by rw[Es (by omega)];exact a,B⟩)
  subst K
  unfold gh fQ
  rw[hr,Fz,Fz,Q]
  have G:cntM (gi p d c) m 0 (b.1,b.2)=some (.inr z):=F
  have I:cntM (fR p d (m:Int) c) m 0 (b.1,b.2)=some (.inr z):=H
  rw[G,I,Fz,Fz,bK,bK]
  exact⟨_,_,rfl,rfl,rfl,by rw[D6,FX];exact L⟩)
 subst N
 exact⟨b,h1,M,O⟩
end
theorem copyPairs {ps:VP}(hl:ps.length<=4) (hb:∀x∈ps,x.Ask.length<=1000000000/\x.Give.length<=1000000000) (X:Det) (l:X.Pairs=ps):cntM (gj X) ps.length 0 []=some (.inr ps)/\cntM (fl X) ps.length 0 []=some (.inr ps):=by
 constructor
 .obtain⟨c,h1,e⟩:=bR (f:=gj X) (λa c=>c=ps.take a) ps.length (s:=[]) rfl (λa c g d=>by
   subst d
   have b:ps[a]? =some ps[a]:=o7 g
   generalize ps[a]=x at b
   obtain⟨i,j⟩:=hb x (EF b)
   have k:∀{xs:VI},xs.length<=1000000000->dj xs=some xs:=λ{xs} h=>by
    unfold dj
    rw[appL (by rw[Fi];omega) rfl];rfl
   unfold gj
   rw[l,bH,b,Fz,Fz,k i,Fz,k j,Fz,app1 (by rw[EB];omega) rfl]
   exact⟨_,rfl,by rw[Ft,b];rfl⟩)
  rw[h1,e,Fv]
 .obtain⟨c,h1,e⟩:=bR (f:=fl X) (λa c=>c=ps.take a) ps.length (s:=[]) rfl (λa c g d=>by
   subst d
   have b:ps[a]? =some ps[a]:=o7 g
   generalize ps[a]=x at b
   obtain⟨i,j⟩:=hb x (EF b)
   unfold fl qc
   rw[l,bH,b,Fz,appL (by rw[Fi];omega) rfl,Fz,appL (by rw[Fi];omega) rfl,Fz,Fz,app1 (by rw[EB];omega) rfl]
   exact⟨_,rfl,by rw[Ft,b];rfl⟩)
  rw[h1,e,Fv]
theorem vr {p:Sig}{d:Det}(hs:sigOk p=true) (hd:detOk p d=true):∃(n m k:Nat) (A:Arena),d.Next.length=n/\pw p.In=(m:Int)/\pw p.Out=(k:Int)/\1<=n/\n<=48/\1<=m/\m<=4/\1<=k/\k<=4/\(∀row∈d.Next,RowIn (n:Int) ((m * k:Nat):Int) row)/\(∀x∈d.Pairs,x.Ask.length<=1000000000/\x.Give.length<=1000000000)/\ConA d n m k A/\gc p d=some (A,d.Pairs,true)/\eW p d=some (A,d.Pairs):=by
 obtain⟨h1,e,s,t⟩:=dx hd
 have K:=eu p.In
 have I:=eu p.Out
 obtain⟨m,hm⟩:=dy (z:=pw p.In) (by omega)
 obtain⟨k,hk⟩:=dy (z:=pw p.Out) (by omega)
 have hb:∀x∈d.Pairs,x.Ask.length<=1000000000/\x.Give.length<=1000000000:=λx u=>by
  have f:=hd
  unfold detOk at f
  simp only[C8]at f
  have hp:=f.1.2
  unfold pairsOk at hp
  rw[C8,Fc]at hp
  have:=hp.2 x u
  unfold pairOk at this
  rw[C8]at this
  have G:=(St.of this.1).len
  have H:=(St.of this.2).len
  omega
 have hD:∀row∈d.Next,RowIn (d.Next.length:Int) ((m * k:Nat):Int) row:=λrow hr=>by
  have:=t row hr
  unfold ltd at this
  rw[hm,hk]at this
  simpa using this
 obtain⟨q,r⟩:=zT e hm rfl
 obtain⟨b,E,F,j,R,c,l,o⟩:=yy hs e hm hk rfl hD
 obtain⟨w,y⟩:=copyPairs s hb d rfl
 refine⟨d.Next.length,m,k,⟨b.1,b.2⟩,rfl,hm,hk,h1,e,by omega,by omega,by omega,by omega,hD,hb,⟨j,?_,λg a=>?_,λg v a i=>?_⟩,?_,?_⟩
 .show b.2.length=_
  rw[c];simp[l]
 .show b.2[g]? =_
  rw[c,Es (by simpa using a),List.getElem?_map,List.getElem?_range a];rfl
 .obtain⟨B,C,D⟩:=o g v a i (tf a i)
  refine⟨B,?_,D⟩
  show b.2[_]? =_
  rw[c,Et (by simp),Fh,FH,Nat.add_sub_cancel_left]
  exact C
 .unfold gc
  rw[mb hs hb,hd,Fz,E5,cond_false,xU hs,Fz,hm,q,Fz,bK]
  dsimp only
  rw[E,Fz,bK,w];rfl
 .unfold eW
  rw[dW hs,Fz,hm,r,Fz,bK]
  dsimp only
  rw[F,Fz,bK,y];rfl
def atP (P:VL) (y:Int):Int:=match idx P y with | some v=>v.At | none=> -1
theorem eA {P:VL}{y:Int}{v:Place}(h:idx P y=some v):atP P y=v.At:=by unfold atP;rw[h]
structure Cx (d:Det) (n m k:Nat) (A:Arena) (P:VL) (g:Parity) (W:Int->Prop) (pk:VI):Prop where
 n1:1<=n
 n48:n<=48
 m1:1<=m
 m4:m<=4
 k1:1<=k
 k4:k<=4
 dl:d.Next.length=n
 cell:∀row∈d.Next,RowIn (n:Int) ((m * k:Nat):Int) row
 con:ConA d n m k A
 rg:RecG A d.Pairs ⟨0,firstR d.Pairs.length⟩ P g
 ok:cT g=true
 sol:Solv g W pk
section
variable {d:Det}{n m k:Nat}{A:Arena}{P:VL}{g:Parity}{W:Int->Prop}{pk:VI}(h:Cx d n m k A P g W pk)
include h
theorem Cx.len:g.Prio.length=P.length/\g.Arena.Owner.length=P.length/\g.Arena.Next.length=P.length/\P.length<=256/\1<=P.length/\pk.length=P.length:=by
 have a:=h.rg.game
 have h1:=a.ol
 have b:=a.nl
 have c:=a.ql
 have d:=h.sol.len
 have e:=(DX.1 a.zero).1
 exact⟨c,h1,b,h.rg.le,by omega,by omega⟩
theorem Cx.place {x:Int}(b:Xn P.length x):∃v,idx P x=some v/\0<=v.At/\v.At<((n+n * m:Nat):Int):=by
 obtain⟨v,d,hm⟩:=eB (xs:=P) b.1 b.2
 have c:=h.rg.game.inn v hm
 have a:=c.a1
 rw[h.con.ol,DZ,EA,EA]at a
 exact⟨v,d,c.a0,a⟩
theorem Cx.row {x:Int}{v:Place}(b:idx P x=some v):∃a ar rc,idx g.Arena.Next x=some a/\idx A.Next v.At=some ar/\RowP P ar rc a/\idx g.Arena.Owner x=idx A.Owner v.At/\a.length<=16:=by
 obtain⟨l,m⟩:=(eK b)
 obtain⟨d,j⟩:=dy l
 subst j
 rw[bH]at b
 have k:=(DX.1 b).1
 obtain⟨e,_,a,ar,c,f,i⟩:=h.rg.game.row d v k b
 refine⟨a,ar,_,by rw[bH];exact c,f,i,by rw[bH];exact e,?_⟩
 have:=(dY h.ok).2.2.2.2 d a c
 exact this.2.1
omit h in
theorem lJ {x y:Int}{r:VI}(hr:idx g.Arena.Next x=some r):(gI g).E x y↔y∈r:=by
 show y∈rowI g.Arena x↔_
 rw[ey hr]
theorem Cx.state {x:Int}{v:Place}(f:idx P x=some v) (hs:v.At<(n:Int)):(gI g).own x=true/\∃(q:Nat) (r:VI),v.At=(q:Int)/\q<n/\idx g.Arena.Next x=some r/\(∀b∈r,Xn P.length b/\∃a:Nat,a<m/\atP P b=((n+(q * m+a):Nat):Int))/\∀a:Nat,a<m->∃b∈r,atP P b=((n+(q * m+a):Nat):Int):=by
 obtain⟨C,o,t,_⟩:=h.place (x:=x) ⟨(eK f).1,(eK f).2.1⟩
 rw[f]at o
 cases o
 obtain⟨q,k⟩:=dy t
 have d:q<n:=by omega
 obtain⟨r,ar,rc,y,p,s,z,_⟩:=h.row f
 have u:ar=rowQ n m q:=by
  rw[k,bH,h.con.r1 q d]at p
  exact(EU p).symm
 subst u
 have w:idx g.Arena.Owner x=some 1:=by
  rw[z,k,bH,h.con.ol,Es (by simpa using d),FF,if_pos d]
 refine⟨?_,q,r,k,d,y,λb l=>?_,λa j=>?_⟩
 .show ownL _ x=true
  unfold ownL
  rw[w];rfl
 .obtain⟨i,B,e,c⟩:=s.to b l
  have A:=(DX.1 c).1
  unfold rowQ at e
  obtain⟨a,j,e⟩:=EE.1 e
  refine⟨⟨i,by omega⟩,a,FI.1 j,?_⟩
  rw[eA (by rw[cB i];exact c),← e,Nat.add_assoc]
 .obtain⟨b,l,i,c⟩:=s.has ((n+q * m+a:Nat):Int) (by unfold rowQ;exact EE.2 ⟨a,FI.2 j,rfl⟩)
  refine⟨b,l,?_⟩
  rw[eA (by rw[cB i];exact c),Nat.add_assoc]
theorem Cx.mid {y:Int}(B:Xn P.length y){q i:Nat}(p:q<n) (hi:i<m) (ha:atP P y=((n+(q * m+i):Nat):Int)):(gI g).own y=false/\∃c,idx g.Arena.Next y=some c/\(∀b∈c,Xn P.length b/\∃a:Nat,a<k/\atP P b=tab d.Next q ((a * m+i:Nat):Int))/\∀a:Nat,a<k->∃b∈c,atP P b=tab d.Next q ((a * m+i:Nat):Int):=by
 obtain⟨v,r,_,_⟩:=h.place B
 rw[eA r]at ha
 obtain⟨c,ar,rc,C,s,t,D,_⟩:=h.row r
 have z:=tf (n:=n) p hi
 obtain⟨w,E,G,u⟩:=h.con.r0 q i p hi
 have x:ar=w:=by
  rw[ha,bH,E]at s
  exact(EU s).symm
 subst x
 have A:idx g.Arena.Owner y=some 0:=by
  rw[D,ha,bH,h.con.ol,Et (by simp),EA,Nat.add_sub_cancel_left,FF,if_pos z]
 refine⟨?_,c,C,λb o=>?_,λa j=>?_⟩
 .show ownL _ y=false
  unfold ownL
  rw[A];rfl
 .obtain⟨f,F,l,e⟩:=t.to b o
  have hl:=(DX.1 e).1
  obtain⟨a,j,l⟩:=(u F).1 l
  exact⟨⟨f,by omega⟩,a,j,by rw[eA (by rw[cB f];exact e),l]⟩
 .obtain⟨b,o,f,e⟩:=t.has _ ((u _).2 ⟨a,j,rfl⟩)
  exact⟨b,o,by rw[eA (by rw[cB f];exact e)]⟩
theorem Cx.cellAt {q i o:Nat}(b:q<n) (hi:i<m) (a:o<k):∃row,idx d.Next (q:Int)=some row/\idx row ((o * m+i:Nat):Int)=some (tab d.Next q ((o * m+i:Nat):Int))/\0<=tab d.Next q ((o * m+i:Nat):Int)/\tab d.Next q ((o * m+i:Nat):Int)<(n:Int):=
 qr h.m1 h.m4 h.dl h.cell b hi a
theorem Cx.mine {x:Int}(b:Xn P.length x) (j:(gI g).own x=wB W x):∃a,idx pk x=some a/\Xn P.length a/\(gI g).E x a/\wB W a=wB W x:=by
 obtain⟨k,_,_,_,_,l⟩:=h.len
 have ha:=h.sol.ans
 rw[k]at ha
 obtain⟨i,c,d,e⟩:=ha.mine x b j
 obtain⟨a,f,_⟩:=eB (xs:=pk) b.1 (by have:=b.2;omega)
 rw[oN f]at i c d e
 exact⟨a,f,d,c,e⟩
theorem Cx.yours {x y:Int}(c:Xn P.length x) (b:¬(gI g).own x=wB W x) (a:(gI g).E x y) (d:Xn P.length y):wB W y=wB W x:=by
 obtain⟨e,_⟩:=h.len
 have ha:=h.sol.ans
 rw[e]at ha
 exact ha.yours x y c b a d
end
def toP (P:VL) (r:VI) (z:Int):Option Nat:=r.findIdx? λa=>atP P a==z
theorem Bt {P:VL}{r:VI}{z:Int}(h:∃a∈r,atP P a=z):∃c a,toP P r z=some c/\r[c]? =some a/\atP P a=z:=by
 obtain⟨a,f,d⟩:=h
 cases b:toP P r z with
 |none=>
  unfold toP at b
  rw[FQ]at b
  have:=b a f
  simp[d]at this
 |some c=>
  unfold toP at b
  obtain⟨h1,e,_⟩:=FR.1 b
  exact⟨c,r[c],rfl,o7 h1,by simpa using e⟩
def tgt (P:VL) (r:VI) (z:Int):Int:=match toP P r z with | some a=>r.getD a 0 | none=> -1
theorem wO {P:VL}{r:VI}{z:Int}(h:∃b∈r,atP P b=z):tgt P r z∈r/\atP P (tgt P r z)=z/\∃a:Nat,toP P r z=some a/\r[a]? =some (tgt P r z):=by
 obtain⟨a,b,h1,c,e⟩:=Bt h
 have d:tgt P r z=b:=by
  unfold tgt
  rw[h1]
  show r.getD a 0=b
  rw[o5,c];rfl
 rw[d]
 exact⟨EF c,e,a,h1,c⟩
def cV (f:Nat->Int) (F:VI):Nat->VI×VI
 |0=>(F,[])
 |j+1=>(addN (cV f F j).1 (f j),(cV f F j).2++[dE (addN (cV f F j).1 (f j)) (f j)])
theorem vh {F:VI}{t:Int}(h:t∈F):0<=dE F t/\dE F t<(F.length:Int):=by
 unfold dE
 cases a:F.findIdx? (λx=>t==x) with
 |none=>
  rw[FQ]at a
  have:=a t h
  simp at this
 |some b=>
  obtain⟨h1,_⟩:=FR.1 a
  dsimp only
  omega
theorem wS {F:VI}{t:Int}:t∈addN F t:=by
 unfold addN
 by_cases h:t∈F
 .rw[if_pos h];exact h
 .rw[if_neg h];simp
theorem Ax {F:VI}{t x:Int}(h:x∈addN F t):x∈F\/x=t:=by
 unfold addN at h
 by_cases a:t∈F
 .rw[if_pos a]at h;exact .inl h
 .rw[if_neg a]at h;simpa using h
theorem rJ {F:VI}(t:Int) (hl:F.length<=1000):(bif decide (dE F t<0) then EO (appS 8 F [t]) λx=>some (x,(F.length:Int)) else some (F,dE F t))=some (addN F t,dE (addN F t) t):=by
 by_cases h:t∈F
 .rw[decide_eq_false (by have:=(vh h).1;omega),cond_false]
  unfold addN
  rw[if_pos h]
 .rw[Ai h,decide_eq_true (by omega),cond_true,app1 (by omega) rfl]
  unfold addN
  rw[if_neg h,Ah h];rfl
structure NmRow (N:Nat) (F:VI) (j:Nat) (Q:Int->Prop) (F' row:VI):Prop where
 nm:Names N F'
 pre:∀(i:Nat) v,F[i]? =some v->F'[i]? =some v
 len:F.length<=F'.length
 le:F'.length<=F.length+j
 rl:row.length=j
 rin:∀x∈row,0<=x/\x<(F'.length:Int)
 all:∀x∈F',Q x
theorem tW {N:Nat}{F:VI}{Q:Int->Prop}(e:Names N F) (g:∀x∈F,Q x){f:Nat->Int}{c:Nat}(i:∀a,a<c->0<=f a/\f a<(N:Int)/\Q (f a)):∀a,a<=c->NmRow N F a Q (cV f F a).1 (cV f F a).2
 |0,_=>⟨e,λ_ _ h=>h,Ec _,Ec _,rfl,λx b=>(by cases b),g⟩
 |a+1,hj=>by
  have d:=tW e g i a (by omega)
  obtain⟨m,n,o⟩:=i a (by omega)
  unfold cV
  generalize cV f F a=G at *
  obtain⟨k,l⟩:=d.nm.add m n
  have r:G.1.length<=(addN G.1 (f a)).length/\(addN G.1 (f a)).length<=G.1.length+1:=by
   unfold addN
   by_cases h:f a∈G.1
   .rw[if_pos h];omega
   .rw[if_neg h,DZ];simp
  have h1:=d.len
  have q:=d.le
  have hm:=vh (wS (F:=G.1) (t:=f a))
  refine⟨k,λj v p=>l j v (d.pre j v p),by dsimp only;omega,by dsimp only;omega,by simp[d.rl],λx b=>?_,λx b=>?_⟩
  .rcases D2.1 b with b|b
   .have:=d.rin x b
    dsimp only;omega
   .rw[D4.1 b];exact hm
  .rcases Ax b with b|b
   .exact d.all x b
   .rw[b];exact o
structure Stp3 (p:Sig) (cs:VC) (d:Det) (n m k:Nat) (A:Arena) (P:VL) (g:Parity) (W:Int->Prop) (pk:VI):Prop where
 sig:sigOk p=true
 det:detOk p d=true
 im:pw p.In=(m:Int)
 ok:pw p.Out=(k:Int)
 cx:Cx d n m k A P g W pk
 sC:gc p d=some (A,d.Pairs,true)
 iC:eW p d=some (A,d.Pairs)
 sR:go A d.Pairs 0=some (g,P,true)
 iR:d8 A d.Pairs 0=some (g,P,true)
 sS:oW g=some ⟨wonL g.Prio.length W,pk⟩
 iS:mR g=some ⟨wonL g.Prio.length W,pk⟩
 sW:g8 g=some (wonL g.Prio.length W)
 iW:eJ g=some (wonL g.Prio.length W)
 won:idx (wonL g.Prio.length W) 0=some (b2i (wB W 0))
structure Stp2 (p:Sig) (cs:VC) (d:Det) (A:Arena):Prop where
 cl:fu p cs=true
 prd:∃N:Nat,ltd p=N/\PR N cs d
 sig:sigOk p=true
 det:detOk p d=true
 pb:∀x∈d.Pairs,x.Ask.length<=1000000000/\x.Give.length<=1000000000
 aok:ed A=true
 pok:pairsOk d.Pairs (A.Owner.length:Int)=true
 a1:1<=A.Owner.length/\A.Owner.length<=256
 al:∃m:Nat,pw p.In=m/\A.Owner.length=d.Next.length+d.Next.length * m
 sC:gc p d=some (A,d.Pairs,true)
 iC:eW p d=some (A,d.Pairs)
theorem setup (p:Sig){a:VC}(hb:∀C∈a,Clause.bd C):(di p a=some (zeroD,false)/\c8 p a=some (zeroD,false)/\(sigOk p=true->fu p a=true->2<a.length))\/∃d A,di p a=some (d,true)/\c8 p a=some (d,true)/\Stp2 p a d A /\
 ((go A d.Pairs 0=some noRec/\d8 A d.Pairs 0=some noRec/\ManyP A.Owner.length d.Pairs.length)\/∃n m k P g W pk,Stp3 p a d n m k A P g W pk):=by
 rcases vt p hb with ⟨h1,b,D⟩|⟨hs,H,N,d,F,_,G,hd,_,h1,b⟩
 .exact .inl ⟨h1,b,D⟩
 .right
  obtain⟨n,m,k,A,j,B,L,z,i,y,f,v,w,hD,s,c,u,q⟩:=vr hs hd
  have l:=CE i z y f v w j hD c
  have I:A.Owner.length=n+n * m:=by rw[c.ol];simp
  have V:n * m<=48 * 4:=FW i f
  have t:pairsOk d.Pairs (A.Owner.length:Int)=true:=by
   have e:=hd
   unfold detOk at e
   simp only[C8]at e
   have hp:=e.1.2
   unfold pairsOk at hp ⊢
   rw[C8,Fc]at hp ⊢
   refine⟨hp.1,λx K=>?_⟩
   have:=hp.2 x K
   unfold pairOk at this ⊢
   rw[C8]at this ⊢
   exact⟨(St.of this.1).ok (by omega),(St.of this.2).ok (by omega)⟩
  refine⟨d,A,h1,b,⟨H,⟨N,F,G⟩,hs,hd,s,l,t,⟨by omega,by omega⟩,⟨m,B,by rw[I,j]⟩,u,q⟩,?_⟩
  rcases ur l t s (Int.le_refl 0) (by omega) with hr|⟨P,g,E,r,M,O⟩
  .exact .inl hr
  .right
   obtain⟨W,pk,Q,R,S,T,U⟩:=wQ r
   have o:Cx d n m k A P g W pk:=⟨z,i,y,f,v,w,j,hD,c,E,r,U⟩
   obtain⟨X,_,_,_,Y,_⟩:=o.len
   exact⟨n,m,k,P,g,W,pk,hs,hd,B,L,o,u,q,M,O,Q,R,S,T,lF ⟨Int.le_refl _,by omega⟩⟩
section
variable {xs:VP}{n:Int}(h0:0<=n) (h1:n<=256) (hb:∀x∈xs,x.Ask.length<=1000000000/\x.Give.length<=1000000000)
include h0 h1 hb
omit h0 h1 in
theorem oy:kW xs n=some (pairsOk xs n):=by
 unfold kW pairsOk
 rw[cX (f:=jC xs n) (r:=false) (pairOk n) (xs:=xs) rfl (λd x a=>by
  obtain⟨b,c⟩:=hb x (EF a)
  unfold jC pairOk
  rw[bH,a]
  simp only[Fz,la b,la c]
  cases dm n x.Ask <;> cases dm n x.Give <;> rfl)]
 cases xs.all (pairOk n) <;> simp[aft]
end
section
variable {p:Sig}{d:Det}(hs:sigOk p=true) (hb:∀x∈d.Pairs,x.Ask.length<=1000000000/\x.Give.length<=1000000000)
include hs hb
theorem rY:qD p d=some (detOk p d):=by
 unfold qD detOk
 simp only[qb,orE,Fz]
 rw[← Bool.not_and]
 cases h1:(decide (1<=(d.Next.length:Int))&&decide ((d.Next.length:Int)<=48)) with
 |false=>rfl
 |true=>
  simp only[C8,decide_eq_true_eq]at h1
  rw[cX (f:=ns p d) (r:=false) (detRow p d.Next.length) (xs:=d.Next) rfl (λb row a=>by
   unfold ns detRow
   rw[bH,a]
   simp only[Fz,sq hs,fk,bne]
   cases((row.length:Int)==ltd p) <;> cases row.all (inR d.Next.length) <;> rfl),oy hb]
  simp only[E5,cond_false,Fz,E7]
  cases d.Next.all (detRow p d.Next.length) <;> cases pairsOk d.Pairs d.Next.length <;> rfl
end
def outsL (d:Det) (m k q i:Nat) (z:Int):VI:=((FK k).filter λa=>tab d.Next q ((a * m+i:Nat):Int)==z).map Int.ofNat
def outF (d:Det) (m k q i:Nat) (z:Int):Int:=(outsL d m k q i z).getD 0 0
theorem Ae (d:Det) (m k q i:Nat) (z:Int):(outsL d m k q i z).length<=k:=by
 unfold outsL
 rw[Fh]
 exact Fw (Fg ..) (by rw[FH];exact Ec _)
theorem yK (d:Det) (m j q i:Nat) (z:Int):outsL d m (j+1) q i z=outsL d m j q i z++(if(tab d.Next q ((j * m+i:Nat):Int)==z)=true then[(j:Int)] else[]):=by
 unfold outsL
 rw[FL,List.filter_append,EC]
 congr 1
 rw[List.filter_cons,List.filter_nil]
 cases tab d.Next q ((j * m+i:Nat):Int)==z <;> rfl
theorem B9 {d:Det}{m k q i o:Nat}{z:Int}(e:o<k) (h:z=tab d.Next q ((o * m+i:Nat):Int)):idx (outsL d m k q i z) 0=some (outF d m k q i z)/\0<=outF d m k q i z/\outF d m k q i z<(k:Int):=by
 have hm:(o:Int)∈outsL d m k q i z:=EE.2 ⟨o,Fk.2 ⟨FI.2 e,by simp[h]⟩,rfl⟩
 have hl:=FT hm
 have b:(outsL d m k q i z)[0]? =some ((outsL d m k q i z)[0]'hl):=o7 hl
 have c:outF d m k q i z=(outsL d m k q i z)[0]'hl:=by
  unfold outF
  rw[o5,b];rfl
 rw[c]
 refine⟨by rw[show(0:Int)=((0:Nat):Int) from rfl,bH];exact b,?_⟩
 have:=FS hl
 generalize(outsL d m k q i z)[0]'hl=y at this
 unfold outsL at this
 obtain⟨f,h1,a⟩:=EE.1 this
 have:=FI.1 (Fk.1 h1).1
 have a:(f:Int)=y:=a
 omega
theorem pz (f:Nat->Int) (F:VI):∀b,F.length<=(cV f F b).1.length/\(cV f F b).1.length<=F.length+b/\(cV f F b).2.length=b
 |0=>⟨Ec _,Ec _,rfl⟩
 |b+1=>by
  obtain⟨a,d,c⟩:=pz f F b
  have h:(cV f F b).1.length<=(addN (cV f F b).1 (f b)).length/\(addN (cV f F b).1 (f b)).length<=(cV f F b).1.length+1:=by
   unfold addN
   split
   .omega
   .rw[DZ];simp
  refine⟨?_,?_,?_⟩
  .show _<=(addN _ _).length;omega
  .show(addN _ _).length<=_;omega
  .show((cV f F b).2++[_]).length=_;rw[DZ,c];rfl
def fM (pk:VI) (P:VL) (r:VI) (n m q:Nat) (i:Nat):Int:=pkL pk (tgt P r ((n+(q * m+i):Nat):Int))
def oM (d:Det) (pk:VI) (P:VL) (r:VI) (n m k q:Nat) (i:Nat):Int:=outF d m k q i (atP P (fM pk P r n m q i))
theorem vg (f:Nat->Int) (F:VI){i:Nat}{v:Int}(b:F[i]? =some v):∀a,(cV f F a).1[i]? =some v
 |0=>b
 |a+1=>by
  have h:=vg f F b a
  show(addN _ _)[i]? =_
  unfold addN
  split
  .exact h
  .rw[Es (DX.1 h).1];exact h
theorem xE (f:Nat->Int) (F:VI){i:Nat}:∀{j:Nat},i<j->∃a:Int,(cV f F j).2[i]? =some a/\0<=a/\(cV f F j).1[a.toNat]? =some (f i)
 |j+1,hi=>by
  have hl:=(pz f F j).2.2
  show ∃a:Int,((cV f F j).2++[dE (addN (cV f F j).1 (f j)) (f j)])[i]? =some a/\0<=a/\(addN (cV f F j).1 (f j))[a.toNat]? =some (f i)
  by_cases e:i=j
  .subst e
   obtain⟨a,c,d,b⟩:=uc (wS (F:=(cV f F i).1) (t:=f i))
   refine⟨_,by rw[Et (by omega),hl,Nat.sub_self];rfl,by rw[c];omega,by rw[c,Fb];exact b⟩
  .obtain⟨a,c,d,b⟩:=xE f F (show i<j by omega)
   refine⟨a,by rw[Es (by omega)];exact c,d,?_⟩
   unfold addN
   split
   .exact b
   .rw[Es (DX.1 b).1];exact b
structure Mkr (N m k:Nat) (Q:Int->Prop) (F:VI) (i:Nat) (Nx Ou:VV):Prop where
 nm:Names N F
 all:∀x∈F,Q x
 zero:F[0]? =some 0
 nxl:Nx.length=i
 oul:Ou.length=i
 nxr:∀row∈Nx,row.length=m/\∀x∈row,0<=x/\x<(F.length:Int)
 our:∀row∈Ou,row.length=m/\∀x∈row,0<=x/\x<(k:Int)
def itM (d:Det) (n m k:Nat) (P:VL) (g:Parity) (pk:VI):Nat->VI×VV×VV
 |0=>([0],[],[])
 |j+1=>
  ((cV (fM pk P (rowI g.Arena ((itM d n m k P g pk j).1.getD j 0)) n m (atP P ((itM d n m k P g pk j).1.getD j 0)).toNat) (itM d n m k P g pk j).1 m).1,
   (itM d n m k P g pk j).2.1++[(cV (fM pk P (rowI g.Arena ((itM d n m k P g pk j).1.getD j 0)) n m (atP P ((itM d n m k P g pk j).1.getD j 0)).toNat) (itM d n m k P g pk j).1 m).2],
   (itM d n m k P g pk j).2.2++[(FK m).map (oM d pk P (rowI g.Arena ((itM d n m k P g pk j).1.getD j 0)) n m k (atP P ((itM d n m k P g pk j).1.getD j 0)).toNat)])
section
variable {d:Det}{n m k:Nat}{A:Arena}{P:VL}{g:Parity}{W:Int->Prop}{pk:VI}(h:Cx d n m k A P g W pk)
include h
theorem AJ {x:Int}{v:Place}(i:idx P x=some v) (ha:v.At<(n:Int)) (s:wB W x=false):∃(q:Nat) (r:VI),v.At=(q:Int)/\q<n/\idx g.Arena.Next x=some r/\r.length<=16/\(∀b∈r,Xn P.length b)/\∀a:Nat,a<m ->
 ∃j b c,toP P r ((n+(q * m+a):Nat):Int)=some j/\r[j]? =some b/\tgt P r ((n+(q * m+a):Nat):Int)=b/\(∃H∈r,atP P H=((n+(q * m+a):Nat):Int))/\idx pk b=some (fM pk P r n m q a)/\idx P (fM pk P r n m q a)=some c/\c.At=atP P (fM pk P r n m q a) /\
  (0<=fM pk P r n m q a/\fM pk P r n m q a<(P.length:Int)/\(wB W (fM pk P r n m q a)=false/\atP P (fM pk P r n m q a)<(n:Int)))/\idx (outsL d m k q a c.At) 0=some (oM d pk P r n m k q a)/\0<=oM d pk P r n m k q a/\oM d pk P r n m k q a<(k:Int):=by
 have S:Xn P.length x:=⟨(eK i).1,(eK i).2.1⟩
 obtain⟨M,q,r,R,l,o,A,w⟩:=h.state i ha
 obtain⟨Z,_,_,z,_,_,_,hl⟩:=h.row i
 rw[o]at z
 cases z
 refine⟨q,r,R,l,o,hl,λb t=>(A b t).1,λa f=>?_⟩
 obtain⟨G,U,j,V,X⟩:=wO (w a f)
 generalize t:tgt P r ((n+(q * m+a):Nat):Int)=b at *
 have u:=(A b G).1
 have F:wB W b=wB W x:=h.yours S (by rw[M,s];simp) ((lJ o).2 G) u
 obtain⟨T,aa,N,L,_⟩:=h.mid u l f U
 obtain⟨to,C,p,O,Q⟩:=h.mine u (by rw[T,F,s])
 have e:fM pk P r n m q a=to:=by
  unfold fM
  rw[t,oN C]
 obtain⟨_,Y,y,B⟩:=L to ((lJ N).1 O)
 obtain⟨c,D,_,_⟩:=h.place p
 have E:c.At=atP P to:=(eA D).symm
 obtain⟨_,_,_,_,I⟩:=h.cellAt l f y
 have K:=B9 (d:=d) (m:=m) (k:=k) (q:=q) (i:=a) (z:=atP P to) y B
 refine⟨j,b,c,V,X,rfl,w a f,by rw[e];exact C,by rw[e];exact D,by rw[e];exact E,by rw[e];exact⟨p.1,p.2,by rw[Q,F,s],by rw[B];exact I⟩,?_⟩
 unfold oM
 rw[e,E]
 exact K
end
theorem AQ (d:Det) (n m k:Nat) (P:VL) (g:Parity) (pk:VI):∀{i j:Nat},i<=j->(itM d n m k P g pk i).1.length<=(itM d n m k P g pk j).1.length:=by
 intro i j a
 induction a with
 |refl=>exact Ec _
 |step _ b=>exact Fw b (pz _ _ _).1
section
variable {d:Det}{n m k:Nat}{A:Arena}{P:VL}{g:Parity}{W:Int->Prop}{pk:VI}(h:Cx d n m k A P g W pk)
include h
variable (h0:wB W 0=false)
include h0
theorem mV:∀a:Nat,(∀i,i<a->i<(itM d n m k P g pk i).1.length)->Mkr P.length m k (λx=>wB W x=false/\atP P x<(n:Int)) (itM d n m k P g pk a).1 a (itM d n m k P g pk a).2.1 (itM d n m k P g pk a).2.2
 |0,_=>by
  obtain⟨_,_,_,_,O,_⟩:=h.len
  have G:=h.rg.game.zero
  have H:atP P 0<(n:Int):=by
   rw[eA (v:=⟨0,firstR d.Pairs.length⟩) (by rw[show(0:Int)=((0:Nat):Int) from rfl,bH];exact G)]
   have:=h.n1
   show(0:Int)<_
   omega
  refine⟨⟨by show[(0:Int)].Nodup;simp,λx b=>?_⟩,λx b=>?_,rfl,rfl,rfl,λx b=>(by cases b),λx b=>(by cases b)⟩
  .rw[D4.1 b];omega
  .rw[D4.1 b];exact⟨h0,H⟩
 |a+1,hj=>by
  have e:=mV a λi o=>hj i (by omega)
  have r:=hj a (by omega)
  unfold itM
  generalize itM d n m k P g pk a=s at *
  obtain⟨F,Nx,Ou⟩:=s
  dsimp only at e r ⊢
  have b:F[a]? =some F[a]:=o7 r
  have C:F.getD a 0=F[a]:=by rw[o5,b];rfl
  rw[C]
  generalize F[a]=x at b
  have w:=EF b
  obtain⟨D,u⟩:=e.all x w
  obtain⟨v,t,_,_⟩:=h.place (x:=x) (e.nm.2 x w)
  rw[eA t]at u ⊢
  obtain⟨y,I,M,S,hr,hrl,R,q⟩:=AJ h t u D
  rw[ey hr,show v.At.toNat=y by omega]
  have l:=tW (N:=P.length) (F:=F) (Q:=λx=>wB W x=false/\atP P x<(n:Int)) e.nm e.all (f:=fM pk P I n m y) (c:=m) (λi o=>by
   obtain⟨_,_,_,_,_,_,_,_,_,_,L,_⟩:=q i o
   exact L) m (Ec _)
  have hl:=l.len
  refine⟨l.nm,l.all,l.pre 0 _ e.zero,by rw[DZ,e.nxl];rfl,by rw[DZ,e.oul];rfl,λrow p=>?_,λrow p=>?_⟩
  .rcases D2.1 p with j|j
   .obtain⟨z,A⟩:=e.nxr row j
    exact⟨z,λx b=>by have:=A x b;omega⟩
   .rw[D4.1 j]
    exact⟨l.rl,l.rin⟩
  .rcases D2.1 p with j|j
   .exact e.our row j
   .rw[D4.1 j]
    refine⟨by rw[Fh,FH],λT E=>?_⟩
    obtain⟨i,o,B⟩:=EE.1 E
    obtain⟨_,_,_,_,_,_,_,_,_,_,_,_,K⟩:=q i (FI.1 o)
    rw[← B];exact K
end
end Go.Proofs.YtfombamjdkihnaaGreat
