/- Regions that are promoted: the stages of priority promotion. Plain law. -/
import Derived.Test.YtgbippnfaoedmaaGreatDoorL0BG
import Derived.Test.YtgbippnfaoedmaaGreatDoorL1BG
set_option linter.unusedVariables false
set_option linter.unusedSimpArgs false
open Bool renaming not_eq_true' → Au, not_true → zG
open Classical renaming byContradiction → zJ
open Int renaming le_refl → Av, ofNat → zK, tmod → zx
open Go.IntKind renaming wrap → zr
open List renaming countP_mono_left → Aw, drop_eq_getElem_cons → Ax, drop_eq_nil_of_le → Ay, getElem?_append_right → yU, getElem?_cons_zero → yV, getElem?_eq_getElem → nx, getElem?_eq_some_iff → yo, getElem?_map → yX, length_append → yq, length_cons → yr, length_map → Al, length_nil → zS, length_singleton → Az, mem_append → yu, mem_append_left → zT, mem_cons → yv, mem_cons_of_mem → zd, mem_cons_self → zU, mem_filter → zV, mem_map → AA, mem_of_getElem? → ze, mem_range → zX, mem_singleton → yw, range → Am, take_length → Ac, take_of_length_le → zi
open Nat renaming add_zero → AB, div_add_mod → AC, div_eq_of_lt → AD, div_lt_of_lt_mul → AE, div_one → AF, le_refl → yE, le_trans → Ae, mul_le_mul_left → AG, mul_le_mul_right → zl, mul_one → pb, zero_le → AH
open Option renaming bind → zm, bind_some → Af
open Option.some renaming inj → zt
open Go.Proofs.YtgbippnfaoedmaaGreatDoor.Par renaming IsAttr → AJ, oddP → As
namespace Go.Proofs.YtgbippnfaoedmaaGreatDoor.Par
section
open Classical
section
variable {G:Gm}{B B' Q Q' A O:Int->Prop}{P e:Int}
theorem Wins.often {p:Bool}{a:Nat->Int}(hp:oddP P=p) (h:∀N,∃n,N<=n/\G.pri (a n)=P) (b:∀n,G.pri (a n)<=P):Wins G p a:=⟨P,hp,h,0,λn _=>b n⟩
structure QR (G:Gm) (P:Int) (B Q:Int->Prop):Prop where
 sub:∀v,Q v->B v
 pri:∀v,Q v->G.pri v<=P
 plan:∃σ:Int->Int,(∀v,Q v->G.own v=oddP P->G.pri v≠P->G.E v (σ v)/\Q (σ v))/\(∀v u,Q v->¬G.own v=oddP P->G.pri v≠P->G.E v u->B u->Q u) /\
  ∀π:Nat->Int,(∀n,Q (π n)/\G.E (π n) (π (n+1))/\(G.own (π n)=oddP P->G.pri (π n)≠P->π (n+1)=σ (π n)))->Wins G (oddP P) π
theorem QR.base (hs:∀v,Q v->B v/\G.pri v=P):QR G P B Q:=⟨λv h=>(hs v h).1,λv h=>by rw[(hs v h).2];exact Av _,id,λv h _ hn=>absurd (hs v h).2 hn,λv b h _ hn=>absurd (hs v h).2 hn,λc a=>Wins.often rfl (λN=>⟨N,yE _,(hs _ (a N).1).2⟩) λn=>by rw[(hs _ (a n).1).2];exact Av _⟩
theorem qg {S:Nat->Prop}(h:¬∀N,∃n,N<=n/\S n):∃N,∀n,N<=n->¬S n:=by
 obtain⟨N,hN⟩:=Classical.not_forall.1 h
 exact⟨N,λn hn hs=>hN ⟨n,hn,hs⟩⟩
theorem QR.attr (h:QR G P B Q) (hA:IsAttr G B (oddP P) Q A) (w:∀v,B v->G.pri v<=P) (I:∀v,B v->¬Q v->G.pri v≠P):QR G P B A:=by
 obtain⟨D,y,z,F⟩:=h.plan
 obtain⟨r,s⟩:=hA.rank
 let j:Int->Int:=λv=>if Q v then D v else if h:∃l,G.E v l/\A l/\r l<r v then h.choose else v
 have o:∀v,Q v->j v=D v:=λv g=>if_pos g
 have m:∀v,A v->¬Q v->G.own v=oddP P->G.E v (j v)/\A (j v)/\r (j v)<r v:=λv g d c=>by
  rcases s v g with h|⟨_,h⟩|⟨h,_⟩
  .exact absurd h d
  .have e:j v=h.choose:=by show(if Q v then _ else _)=_;rw[if_neg d,dif_pos h]
   rw[e];exact h.choose_spec
  .exact absurd c h
 refine⟨hA.sub,λv g=>w v (hA.sub v g),j,λv g c hn=>?_,λv l g c hn t q=>?_,λf i=>?_⟩
 .by_cases d:Q v
  .rw[o v d]
   obtain⟨a,b⟩:=y v d c hn
   exact⟨a,hA.base _ (h.sub _ b) b⟩
  .exact⟨(m v g d c).1,(m v g d c).2.1⟩
 .by_cases d:Q v
  .exact hA.base _ q (z v l d c hn t q)
  .rcases s v g with h|⟨h,_⟩|⟨_,h⟩
   .exact absurd h d
   .exact absurd h c
   .exact(h l t q).1
 .have p:∀n,B (f n):=λn=>hA.sub _ (i n).1
  by_cases u:∀N,∃n,N<=n/\G.pri (f n)=P
  .exact Wins.often rfl u λn=>w _ (p n)
  .obtain⟨N,hN⟩:=qg u
   have H:∀n,N<=n->Q (f n)->Q (f (n+1)):=λn hn d=>by
    by_cases c:G.own (f n)=oddP P
    .rw[(i n).2.2 c (hN n hn),o _ d]
     exact(y _ d c (hN n hn)).2
    .exact z _ _ d c (hN n hn) (i n).2.1 (p _)
   by_cases d:∃n,N<=n/\Q (f n)
   .obtain⟨n,hn,d⟩:=d
    have C:∀k,Q (f (k+n)):=λk=>by
     induction k with
     |zero=>rwa [Nat.zero_add]
     |succ k E=>rw[show k+1+n=k+n+1 from by omega];exact H _ (by omega) E
    refine Wins.tail n (F _ λk=>⟨C k,?_,λc hp=>?_⟩)
    .have:=(i (k+n)).2.1
     rwa [show k+n+1=k+1+n from by omega]at this
    .have:=(i (k+n)).2.2 c hp
     rw[o _ (C k),show k+n+1=k+1+n from by omega]at this
     exact this
   .exact(descent (r:=λk=>r (f (k+N))) λk=>by
     have x:¬Q (f (k+N)):=λh=>d ⟨k+N,by omega,h⟩
     show r (f (k+1+N))<r (f (k+N))
     rw[show k+1+N=k+N+1 from by omega]
     by_cases c:G.own (f (k+N))=oddP P
     .rw[(i _).2.2 c (hN _ (by omega))]
      exact(m _ (i _).1 x c).2.2
     .rcases s _ (i (k+N)).1 with h|⟨h,_⟩|⟨_,h⟩
      .exact absurd h x
      .exact absurd h c
      .exact(h _ (i _).2.1 (p _)).2).elim
theorem QR.join (h:QR G P B Q) (j:QR G e B' Q') (U:P<e) (l:oddP e=oddP P) (hs:∀v,Q v->B' v) (I:∀v,Q v->G.own v=oddP P->∃c,G.E v c/\Q c) (L:∀v c,Q v->¬G.own v=oddP P->G.E v c->B' c->Q c\/Q' c) (V:∀v c,Q v->¬G.own v=oddP P->G.E v c->B c->Q c) (S:∀v,Q v->B v):QR G e B' (λv=>Q v\/Q' v):=by
 obtain⟨u,C,W,O⟩:=h.plan
 obtain⟨F,t,E,R⟩:=j.plan
 let i:Int->Int:=λv=>if Q' v then F v else if G.pri v=P then(if h:∃c,G.E v c/\Q c then h.choose else v) else u v
 have p:∀v,Q' v->i v=F v:=λv b=>if_pos b
 have o:∀v,Q v->¬Q' v->G.own v=oddP P->G.E v (i v)/\Q (i v)/\(G.pri v≠P->i v=u v):=λv b hn a=>by
  by_cases hp:G.pri v=P
  .have m:=I v b a
   have e:i v=m.choose:=by show(if Q' v then _ else _)=_;rw[if_neg hn,if_pos hp,dif_pos m]
   rw[e]
   exact⟨m.choose_spec.1,m.choose_spec.2,λh=>absurd hp h⟩
  .have e:i v=u v:=by show(if Q' v then _ else _)=_;rw[if_neg hn,if_neg hp]
   rw[e]
   exact⟨(C v b a hp).1,(C v b a hp).2,λ_=>rfl⟩
 have K:∀v,Q v->G.pri v≠e:=λv b=>by have:=h.pri v b;omega
 refine⟨λv b=>b.elim (hs v) (j.sub v),λv b=>b.elim (λb=>by have:=h.pri v b;omega) (j.pri v),i,λv b a hn=>?_,λv c b a hn x w=>?_,λg f=>?_⟩
 .by_cases d:Q' v
  .rw[p v d]
   exact⟨(t v d a hn).1,.inr (t v d a hn).2⟩
  .have A:=b.resolve_right d
   rw[l]at a
   exact⟨(o v A d a).1,.inl (o v A d a).2.1⟩
 .by_cases d:Q' v
  .exact .inr (E v c d a hn x w)
  .rw[l]at a
   exact L v c (b.resolve_right d) a x w
 .have H:∀n,B' (g n):=λn=>(f n).1.elim (hs _) (j.sub _)
  by_cases y:∀N,∃n,N<=n/\G.pri (g n)=e
  .exact Wins.often rfl y λn=>(f n).1.elim (λb=>by have:=h.pri _ b;omega) (j.pri _)
  .obtain⟨N,hN⟩:=qg y
   by_cases d:∃n,N<=n/\Q' (g n)
   .obtain⟨n,hn,d⟩:=d
    have D:∀k,Q' (g (k+n)):=λk=>by
     induction k with
     |zero=>rwa [Nat.zero_add]
     |succ k s=>
      rw[show k+1+n=k+n+1 from by omega]
      by_cases a:G.own (g (k+n))=oddP e
      .rw[(f _).2.2 a (hN _ (by omega)),p _ s]
       exact(t _ s a (hN _ (by omega))).2
      .exact E _ _ s a (hN _ (by omega)) (f _).2.1 (H _)
    refine Wins.tail n (R _ λk=>⟨D k,?_,λa hp=>?_⟩)
    .have:=(f (k+n)).2.1
     rwa [show k+n+1=k+1+n from by omega]at this
    .have:=(f (k+n)).2.2 a hp
     rw[p _ (D k),show k+n+1=k+1+n from by omega]at this
     exact this
   .have q:∀n,N<=n->Q (g n)/\¬Q' (g n):=λn hn=>⟨(f n).1.resolve_right λh=>d ⟨n,hn,h⟩,λh=>d ⟨n,hn,h⟩⟩
    rw[l]
    refine Wins.tail N ?_
    by_cases z:∀M,∃n,M<=n/\G.pri (g (n+N))=P
    .exact Wins.often rfl z λn=>h.pri _ (q _ (by omega)).1
    .obtain⟨M,T⟩:=qg z
     refine Wins.tail M (O _ λk=>⟨(q _ (by omega)).1,?_,λa hp=>?_⟩)
     .have:=(f (k+M+N)).2.1
      rwa [show k+M+N+1=k+1+M+N from by omega]at this
     .have r:=q (k+M+N) (by omega)
      have:=(f (k+M+N)).2.2 (by rw[l];exact a) (K _ r.1)
      rw[(o _ r.1 r.2 a).2.2 hp,show k+M+N+1=k+1+M+N from by omega]at this
      exact this
theorem QR.dom (h:QR G P B Q) (hs:∀v,Q v->O v) (o:∀v,Q v->G.own v=oddP P->∃b,G.E v b/\Q b) (p:∀v b,Q v->¬G.own v=oddP P->G.E v b->O b->Q b):Dom G O (oddP P) Q:=by
 obtain⟨j,m,s,q⟩:=h.plan
 let c:Int->Int:=λv=>if G.pri v=P then(if h:∃b,G.E v b/\Q b then h.choose else v) else j v
 have i:∀v,Q v->G.own v=oddP P->G.E v (c v)/\Q (c v)/\(G.pri v≠P->c v=j v):=λv d a=>by
  by_cases hp:G.pri v=P
  .have g:=o v d a
   have e:c v=g.choose:=by show(if _ then _ else _)=_;rw[if_pos hp,dif_pos g]
   rw[e]
   exact⟨g.choose_spec.1,g.choose_spec.2,λh=>absurd hp h⟩
  .have e:c v=j v:=if_neg hp
   rw[e]
   exact⟨(m v d a hp).1,(m v d a hp).2,λ_=>rfl⟩
 refine⟨c,hs,λv d a=>⟨(i v d a).1,(i v d a).2.1⟩,p,λr f=>?_⟩
 by_cases l:∀N,∃n,N<=n/\G.pri (r n)=P
 .exact Wins.often rfl l λn=>h.pri _ (f n).1
 .obtain⟨N,hN⟩:=qg l
  refine Wins.tail N (q _ λk=>⟨(f _).1,?_,λa hp=>?_⟩)
  .have:=(f (k+N)).2.1
   rwa [show k+N+1=k+1+N from by omega]at this
  .have:=(f (k+N)).2.2 a
   rw[(i _ (f _).1 a).2.2 hp,show k+N+1=k+1+N from by omega]at this
   exact this
structure Stg (G:Gm) (O:Int->Prop) (r:Int->Int) (a:Int):Prop where
 dead:NoDead G O
 low:∀v,O v->G.pri v<=r v
 eq:∀v,O v->r v<a->r v=G.pri v
 base:QR G a (λv=>O v/\r v<=a) (λv=>O v/\r v=a)
 up:∀P,a<P->QR G P (λv=>O v/\r v<=P) (λv=>O v/\r v=P)
 trap:∀v u,O v->O u->r v<r u->a<r u->G.own v=oddP (r u)->¬G.E v u
 free:∀v w,O v->O w->r v<r w->a<r w->¬G.own v=oddP (r w)->∃u,G.E v u/\O u/\r u<r w
theorem Stg.first {a:Int}{r:Int->Int}(hN:NoDead G O) (c:∀v,O v->r v=G.pri v) (ha:∀v,O v->G.pri v<=a):Stg G O r a:=
 ⟨hN,λv b=>by rw[c v b];exact Av _,λv b _=>c v b,QR.base λv b=>⟨⟨b.1,by omega⟩,by rw[← c v b.1];exact b.2⟩,λP f=>QR.base λv b=>⟨⟨b.1,by omega⟩,by rw[← c v b.1];exact b.2⟩,
  λv e _ d _ h=>by have:=ha e d;rw[c e d]at h;omega,λv w _ hw _ h=>by have:=ha w hw;rw[c w hw]at h;omega⟩
variable {r:Int->Int}{a:Int}
theorem Stg.succ (h:Stg G O r a){v:Int}(e:O v) (p:r v<=a):∃b,G.E v b/\O b/\r b<=a:=by
 have n:∀k:Nat,(∃b,G.E v b/\O b/\r b<=a+(k:Int))->∃b,G.E v b/\O b/\r b<=a:=λk=>by
  induction k with
  |zero=>rintro⟨b,d,c,i⟩;exact⟨b,d,c,by omega⟩
  |succ k g=>
   rintro⟨b,d,c,i⟩
   by_cases m:r b<=a+(k:Int)
   .exact g ⟨b,d,c,m⟩
   .by_cases f:G.own v=oddP (r b)
    .exact absurd d (h.trap v b e c (by omega) (by omega) f)
    .obtain⟨w,j,l,o⟩:=h.free v b e c (by omega) (by omega) f
     exact g ⟨w,j,l,by omega⟩
 obtain⟨b,d,c⟩:=h.dead v e
 exact n (r b-a).toNat ⟨b,d,c,by omega⟩
section
variable (h:Stg G O r a) (hA:IsAttr G (λv=>O v/\r v<=a) (oddP a) (λv=>O v/\r v=a) A)
include h hA
theorem Stg.pulled:QR G a (λv=>O v/\r v<=a) A:=h.base.attr hA (λv b=>by have:=h.low v b.1;omega) λv b d=>by
 have c:r v<a:=by
  have:¬r v=a:=λe=>d ⟨b.1,e⟩
  omega
 have:=h.eq v b.1 c
 omega
omit h in
theorem Stg.baseA {v:Int}(b:O v) (c:r v=a):A v:=hA.base v ⟨b,by omega⟩ ⟨b,c⟩
theorem Stg.lower {r':Int->Int}{a':Int}(g:∀v,A v->r' v=a) (d:∀v,O v->¬A v->r' v=r v) (I:a'<a) (E:∀v,O v->r v<=a->¬A v->r v<=a'):Stg G O r' a':=by
 have j:∀v,A v->O v/\r v<=a:=hA.sub
 have n:∀v,O v->r v<=a->¬A v->r' v=r v/\r v<=a'/\r v=G.pri v:=λv b s hn=>by
  refine⟨d v b hn,E v b s hn,h.eq v b ?_⟩
  have:=E v b s hn
  omega
 have B:∀v,O v->a<r v->r' v=r v:=λv b l=>d v b λhn=>by have:=(j v hn).2;omega
 -- the regions above stay
 have q:∀v P,O v->a<=P->(r' v<=P↔r v<=P):=λv P b z=>by
  by_cases hn:A v
  .have:=(j v hn).2
   rw[g v hn];omega
  .rw[d v b hn]
 have D:∀v P,O v->a<P->(r' v=P↔r v=P):=λv P b z=>by
  by_cases hn:A v
  .have:=(j v hn).2
   rw[g v hn];omega
  .rw[d v b hn]
 refine⟨h.dead,λv b=>?_,λv b l=>?_,QR.base λv b=>?_,λP z=>?_,λv c b y f x i C=>?_,λv w b hw f x i=>?_⟩
 .by_cases hn:A v
  .have:=h.low v b
   have:=(j v hn).2
   rw[g v hn];omega
  .rw[d v b hn];exact h.low v b
 .have hn:¬A v:=λhn=>by rw[g v hn]at l;omega
  rw[d v b hn]at l ⊢
  exact h.eq v b (by omega)
 .have hn:¬A v:=λhn=>by have:=g v hn;have:=b.2;omega
  have e:=d v b.1 hn
  have s:r v<=a:=by have:=b.2;omega
  refine⟨⟨b.1,by have:=b.2;omega⟩,?_⟩
  have:=(n v b.1 s hn).2.2
  have:=b.2
  omega
 .by_cases l:a<P
  .have:=h.up P l
   rw[show(λv=>O v/\r' v<=P)=λv=>O v/\r v<=P from funext λv=>propext ⟨λk=>⟨k.1,(q v P k.1 (by omega)).1 k.2⟩,λk=>⟨k.1,(q v P k.1 (by omega)).2 k.2⟩⟩,
    show(λv=>O v/\r' v=P)=λv=>O v/\r v=P from funext λv=>propext ⟨λk=>⟨k.1,(D v P k.1 l).1 k.2⟩,λk=>⟨k.1,(D v P k.1 l).2 k.2⟩⟩]
   exact this
  .by_cases e:P=a
   .subst e
    have:=h.pulled hA
    rw[show(λv=>O v/\r' v<=P)=λv=>O v/\r v<=P from funext λv=>propext ⟨λk=>⟨k.1,(q v P k.1 (by omega)).1 k.2⟩,λk=>⟨k.1,(q v P k.1 (by omega)).2 k.2⟩⟩,
     show(λv=>O v/\r' v=P)=A from funext λv=>propext ⟨λk=>zJ λhn=>by
      have e:=d v k.1 hn
      have F:=k.2
      have:=(n v k.1 (by omega) hn).2.1
      omega,λk=>⟨(j v k).1,g v k⟩⟩]
    exact this
   .refine QR.base λv b=>?_
    exfalso
    have F:=b.2
    by_cases hn:A v
    .rw[g v hn]at F;omega
    .have H:=d v b.1 hn
     have:=(n v b.1 (by omega) hn).2.1
     omega
 · -- trap
   by_cases o:a<r c
   .rw[B c y o]at f x i
    refine h.trap v c b y ?_ o i C
    by_cases hn:A v
    .have:=(j v hn).2;omega
    .rw[d v b hn]at f;exact f
   .by_cases hn:A c
    .rw[g c hn]at f i
     have p:¬A v:=λk=>by rw[g v k]at f;omega
     rw[d v b p]at f
     exact hA.mine v c ⟨b,by omega⟩ p i C (j c hn) hn
    .have:=(n c y (by omega) hn)
     omega
 .by_cases o:a<r w
  .rw[B w hw o]at f x i ⊢
   obtain⟨c,t,m,u⟩:=h.free v w b hw (by
    by_cases hn:A v
    .have:=(j v hn).2;omega
    .rw[d v b hn]at f;exact f) o i
   refine⟨c,t,m,?_⟩
   by_cases hn:A c
   .rw[g c hn];exact o
   .rw[d c m hn];exact u
  .by_cases hn:A w
   .rw[g w hn]at f i ⊢
    have p:¬A v:=λk=>by rw[g v k]at f;omega
    rw[d v b p]at f
    obtain⟨c,t,m,u⟩:=hA.yours v ⟨b,by omega⟩ p i
    refine⟨c,t,m.1,?_⟩
    have:=n c m.1 m.2 u
    omega
   .have:=n w hw (by omega) hn
    omega
theorem Stg.rest (m:¬((∀v,A v->G.own v=oddP a->∃b,G.E v b/\A b)/\∀v b,A v->¬G.own v=oddP a->G.E v b->O b->r b<=a->A b)):∃v,O v/\r v<=a/\¬A v:=by
 refine zJ λhn=>m ⟨λv d n=>?_,λv b d n e o l=>zJ λc=>hn ⟨b,o,l,c⟩⟩
 obtain⟨j,k⟩:=hA.sub v d
 obtain⟨b,f,g,i⟩:=h.succ j k
 exact⟨b,f,zJ λc=>hn ⟨b,g,i,c⟩⟩
theorem Stg.promote {r':Int->Int}{e:Int}(R:∀v,A v->G.own v=oddP a->∃c,G.E v c/\A c) (K:∀v c,A v->¬G.own v=oddP a->G.E v c->O c->r c<=a->A c){j o:Int}(I:A j) (E:¬G.own j=oddP a) (C:G.E j o) (H:O o) (T:¬A o) (V:r o=e) (S:∀v c,A v->¬G.own v=oddP a->G.E v c->O c->¬A c->e<=r c)
 (s:∀v,A v->r' v=e) (t:∀v,O v->¬A v->r v<e->r' v=G.pri v) (n:∀v,O v->¬A v->e<=r v->r' v=r v):Stg G O r' e/\a<e:=by
 have d:∀v,A v->O v/\r v<=a:=hA.sub
 have y:a<e:=by
  refine zJ λhn=>T (K j o I E C H (by omega))
 have U:oddP e=oddP a:=by
  refine zJ λhn=>?_
  obtain⟨p,l⟩:=d j I
  refine h.trap j o p H (by omega) (by omega) ?_ C
  rw[V]
  revert E hn
  cases G.own j <;> cases oddP e <;> cases oddP a <;> simp
 have i:∀v P,O v->e<=P->(r' v<=P↔r v<=P):=λv P b u=>by
  by_cases hn:A v
  .have:=(d v hn).2
   rw[s v hn];omega
  .by_cases f:r v<e
   .have:=h.low v b
    rw[t v b hn f];omega
   .rw[n v b hn (by omega)]
 have x:∀v P,O v->e<P->(r' v=P↔r v=P):=λv P b u=>by
  by_cases hn:A v
  .have:=(d v hn).2
   rw[s v hn];omega
  .by_cases f:r v<e
   .have:=h.low v b
    rw[t v b hn f];omega
   .rw[n v b hn (by omega)]
 refine⟨⟨h.dead,λv b=>?_,λv b D=>?_,?_,λP u=>?_,λv c b F p l g q=>?_,λv w b hw p l g=>?_⟩,y⟩
 .by_cases hn:A v
  .have:=h.low v b
   have:=(d v hn).2
   rw[s v hn];omega
  .by_cases f:r v<e
   .rw[t v b hn f];exact Av _
   .rw[n v b hn (by omega)];exact h.low v b
 .by_cases hn:A v
  .rw[s v hn]at D;omega
  .by_cases f:r v<e
   .exact t v b hn f
   .rw[n v b hn (by omega)]at D;omega
 .have Q:=QR.join (h.pulled hA) (h.up e y) y U (λv b=>⟨(d v b).1,by have:=(d v b).2;omega⟩) R (λv c b g q m=>by
   by_cases hn:A c
   .exact .inl hn
   .exact .inr ⟨m.1,by have:=S v c b g q m.1 hn;have:=m.2;omega⟩) (λv c b g q m=>K v c b g q m.1 m.2) d
  rw[show(λv=>O v/\r' v<=e)=λv=>O v/\r v<=e from funext λv=>propext ⟨λk=>⟨k.1,(i v e k.1 (Av _)).1 k.2⟩,λk=>⟨k.1,(i v e k.1 (Av _)).2 k.2⟩⟩,
   show(λv=>O v/\r' v=e)=λv=>A v\/(O v/\r v=e) from funext λv=>propext ⟨λk=>by
    by_cases hn:A v
    .exact .inl hn
    .refine .inr ⟨k.1,?_⟩
     have z:=k.2
     by_cases f:r v<e
     .have:=h.low v k.1
      rw[t v k.1 hn f]at z;omega
     .rw[n v k.1 hn (by omega)]at z;exact z,λk=>k.elim (λk=>⟨(d v k).1,s v k⟩) λk=>⟨k.1,by
    have hn:¬A v:=λhn=>by have:=(d v hn).2;have:=k.2;omega
    rw[n v k.1 hn (by have:=k.2;omega)];exact k.2⟩⟩]
  exact Q
 .have:=h.up P (by omega)
  rw[show(λv=>O v/\r' v<=P)=λv=>O v/\r v<=P from funext λv=>propext ⟨λk=>⟨k.1,(i v P k.1 (by omega)).1 k.2⟩,λk=>⟨k.1,(i v P k.1 (by omega)).2 k.2⟩⟩,
   show(λv=>O v/\r' v=P)=λv=>O v/\r v=P from funext λv=>propext ⟨λk=>⟨k.1,(x v P k.1 u).1 k.2⟩,λk=>⟨k.1,(x v P k.1 u).2 k.2⟩⟩]
  exact this
 .have L:=(x c (r' c) F l).1 rfl
  rw[← L]at p l g
  refine h.trap v c b F ?_ (by omega) g q
  have:=i v (r c-1) b (by omega)
  omega
 .have M:=(x w (r' w) hw l).1 rfl
  rw[← M]at p l g ⊢
  obtain⟨c,N,B,W⟩:=h.free v w b hw (by have:=i v (r w-1) b (by omega);omega) (by omega) g
  exact⟨c,N,B,by have:=i c (r w-1) B (by omega);omega⟩
theorem Stg.dom (c:∀v,A v->G.own v=oddP a->∃b,G.E v b/\A b) (e:∀v b,A v->¬G.own v=oddP a->G.E v b->O b->A b):Dom G O (oddP a) A:=(h.pulled hA).dom (λv d=>(hA.sub v d).1) c e
end
structure Part (G:Gm) (X O:Int->Prop) (W:Bool->Int->Prop):Prop where
 sub:∀v,O v->X v
 grow:∀q D,Dom G O q D->Dom G X q (λv=>W q v\/D v)
theorem Part.first {X:Int->Prop}{W:Bool->Int->Prop}(h:∀a v,¬W a v):Part G X X W:=⟨λ_ h=>h,λa D b=>b.congr λv=>⟨.inr,λk=>k.resolve_left (h a v)⟩⟩
theorem Part.step {X O A D:Int->Prop}{W W':Bool->Int->Prop}{p:Bool}(h:Part G X O W) (c:Dom G O p D) (hA:IsAttr G O p D A) (hp:∀v,W' p v↔W p v\/A v) (d:∀v,W' (!p) v↔W (!p) v):Part G X (Mn O A) W':=by
 refine⟨λv f=>h.sub v f.1,λa D' b=>?_⟩
 by_cases e:a=p
 .subst e
  refine(h.grow a _ (c.grow hA b)).congr λv=>?_
  rw[hp]
  exact⟨λk=>k.elim (λk=> .inl (.inl k)) λk=>k.elim (λk=> .inl (.inr k)) .inr,λk=>k.elim (λk=>k.elim .inl λk=> .inr (.inl k)) λk=> .inr (.inr k)⟩
 .have e:a= !p:=by cases a <;> cases p <;> simp_all
  subst e
  refine(h.grow _ _ (Dom.lift hA b)).congr λv=>?_
  rw[d]
theorem Part.sol {X O:Int->Prop}{W:Bool->Int->Prop}(h:Part G X O W) (e:∀v,¬O v) (hX:∀v,X v↔W false v\/W true v) (d:∀v,¬(W false v/\W true v)):Sol G X false (W false):=by
 have c:∀b,Dom G X b (W b):=λb=>(h.grow b _ Dom.empty).congr λv=>⟨λk=>k.resolve_right id,.inl⟩
 refine⟨λv a=>(hX v).2 (.inl a),c false,(c true).congr λv=>⟨λa=>⟨(hX v).2 (.inr a),λk=>d v ⟨k,a⟩⟩,λa=>((hX v).1 a.1).resolve_left a.2⟩⟩
end
end
end Go.Proofs.YtgbippnfaoedmaaGreatDoor.Par
namespace Go.Proofs.YtgbippnfaoedmaaGreatDoor
open Go Go.Wk Go.Proofs
section
open Classical
theorem uM (j:Nat) (P:Int->Prop):lst (j+1) P=lst j P++(if P (j:Int) then[(j:Int)] else[]):=by
 unfold lst
 rw[List.range_succ,List.map_append,List.filter_append]
 congr 1
 simp only[List.map_cons,List.map_nil]
 by_cases h:P (j:Int)
 .rw[if_pos h];exact List.filter_cons_of_pos (by simpa using h)
 .rw[if_neg h];rw[List.filter_cons_of_neg (by simpa using h)];rfl
theorem mj (n:Nat) (P:Int->Prop):Asc (lst n P):=(tJ n).filter _
theorem tg (a p:Bool):(b2i a==b2i p)=decide (a=p):=by cases a <;> cases p <;> rfl
theorem vH (a p:Bool):(b2i a !=b2i p)=decide (¬a=p):=by cases a <;> cases p <;> rfl
section
variable {g:Parity}{n:Nat}(h:GOk g n){s:Stage}(hR:s.Region.length=n)
include h hR
theorem ke (c:Int):dX s c=some (lst n λv=>0<=rk s.Region v/\rk s.Region v<=c):=by
 have hn:=h.n256
 obtain⟨b,d,g⟩:=ba (f:=fl s c) (λa (b:VI)=>b=lst a λv=>0<=rk s.Region v/\rk s.Region v<=c) n (s:=[]) rfl (λa b k j=>by
  subst j
  have i:=gn (R:=s.Region) (v:=(a:Int)) (by omega) (by omega)
  have l:=je (n:=a) (D:=λv=>0<=rk s.Region v/\rk s.Region v<=c)
  unfold fl
  rw[i,Af,show(bif decide (0<=rk s.Region (a:Int)) then some (decide (rk s.Region (a:Int)<=c)) else some false)=some (decide (0<=rk s.Region (a:Int))&&decide (rk s.Region (a:Int)<=c)) from andE _ _,Af,uM,← Bool.decide_and]
  by_cases e:0<=rk s.Region (a:Int)/\rk s.Region (a:Int)<=c
  .rw[decide_eq_true e,cond_true,app1 (by omega) rfl,Af,Af,if_pos e]
   exact⟨_,rfl,rfl⟩
  .rw[decide_eq_false e,cond_false,Af,if_neg e,List.append_nil]
   exact⟨_,rfl,rfl⟩)
 unfold dX
 rw[hR,d,Af,aU,g]
variable (hS:Par.Stg (gI g) (λv=>0<=rk s.Region v) (rk s.Region) s.At) (a0:0<=s.At) (a1:s.At<=40)
include hS a0 a1
omit h hR a1 hS in
theorem oQ:zx s.At 2=b2i (As s.At):=jO a0
omit a0 a1 hS h in
theorem cT {v:Int}(a:0<=rk s.Region v):0<=v/\v<n:=zJ λb=>by
 rw[mS (R:=s.Region) (v:=v) (by rw[hR];exact b)]at a;omega
theorem uc:∃A,cZ g s=some A/\Asc A/\(∀v∈A,0<=v/\v<n)/\AJ (gI g) (λv=>0<=rk s.Region v/\rk s.Region v<=s.At) (As s.At) (λv=>0<=rk s.Region v/\rk s.Region v=s.At) (·∈A):=by
 have hn:=h.n256
 have u:=je (n:=n) (D:=λv=>0<=rk s.Region v/\rk s.Region v<=s.At)
 have w:=je (n:=n) (D:=λv=>0<=rk s.Region v/\rk s.Region v<=s.At-1)
 have e:(λv=>v∈lst n λv=>0<=rk s.Region v/\rk s.Region v<=s.At)=λv=>0<=rk s.Region v/\rk s.Region v<=s.At:=funext λv=>propext (by
  rw[bB]
  exact⟨λb=>b.2,λb=>⟨cT hR b.1,b⟩⟩)
 obtain⟨A,f,i,t,j,c⟩:=fk h (X:=lst n λv=>0<=rk s.Region v/\rk s.Region v<=s.At) (λv a=>((bB v).1 a).1) (by omega) (S:=(lst n λv=>0<=rk s.Region v/\rk s.Region v<=s.At).filter λr=> !decide (r∈lst n λv=>0<=rk s.Region v/\rk s.Region v<=s.At-1)) (λv a=>((bB v).1 (zV.1 a).1).1) (Ae (List.length_filter_le _ _) (by omega)) (by
  rw[e]
  intro v ⟨p,q⟩
  obtain⟨k,l,m,o⟩:=hS.succ p q
  exact⟨k,l,m,o⟩) (As s.At)
 rw[e]at c
 unfold cZ
 rw[ke h hR,Af,wr' (by omega) (by omega),ke h hR,Af,kN (mj _ _) (by omega) (by omega),Af,oQ a0,f,Af]
 refine⟨A,rfl,i,j,c.congrS λv a=>?_⟩
 rw[zV,bB]
 simp only[Au,decide_eq_false_iff_not,bB]
 have d:=cT hR a.1
 constructor
 .rintro⟨_,b⟩
  exact⟨a.1,by
   refine zJ λx=>b ⟨d,a.1,?_⟩
   have:=a.2
   omega⟩
 .rintro⟨y,z⟩
  exact⟨⟨d,a⟩,λb=>by have:=b.2.2;omega⟩
omit hS a1 in
theorem wG {A:VI}(hA:cZ g s=some A) (R:∀v∈A,0<=v/\v<n):∃b,kn g s=some b/\(b=true↔(∀v,v∈A->(gI g).own v=As s.At->∃a,(gI g).E v a/\a∈A)/\∀v a,v∈A->¬(gI g).own v=As s.At->(gI g).E v a->0<=rk s.Region a->rk s.Region a<=s.At->a∈A):=by
 have hn:=h.n256
 obtain⟨M,m1,V,m3⟩:=kr h R
 obtain⟨u,ag,ap,ah⟩:=kr h (L:=lst n λv=>0<=rk s.Region v/\rk s.Region v<=s.At) (λv o=>((bB v).1 o).1)
 let k:Int->Prop:=λv=>v∈A->((gI g).own v=As s.At->∃a∈bm g.Arena v,a∈A)/\(¬(gI g).own v=As s.At->∀a∈bm g.Arena v,0<=rk s.Region a->rk s.Region a<=s.At->a∈A)
 have af:∀v:Int,0<=v->v<n->∀r,idx g.Arena.Next v=some r->bm g.Arena v=r->(∀a∈r,0<=a/\a<n)->∃w,cntM (eU g s M u v r) r.length 0 false=some w/\(match w with
  |.inl b=>b=false/\¬(gI g).own v=As s.At/\∃a∈r,a∉A/\0<=rk s.Region a/\rk s.Region a<=s.At
  |.inr b=>((b=true↔∃a∈r,a∈A)/\(¬(gI g).own v=As s.At->∀a∈r,0<=rk s.Region a->rk s.Region a<=s.At->a∈A))\/False):=λv Q X r I x K=>by
  refine lP (f:=eU g s M u v r) (λz (b:Bool)=>(b=true↔∃a∈r.take z,a∈A)/\(¬(gI g).own v=As s.At->∀a∈r.take z,0<=rk s.Region a->rk s.Region a<=s.At->a∈A)) (λb=>b=false/\¬(gI g).own v=As s.At/\∃a∈r,a∉A/\0<=rk s.Region a/\rk s.Region a<=s.At) (λ_=>False) r.length ⟨by simp,by simp⟩ (λz b ad ⟨N,O⟩=>?_) |> λ⟨w,L,j⟩=>⟨w,L,by
   match w,j with
   |.inl b,j=>exact j
   |.inr b,j=>rw[Ac]at j;exact j⟩
  have y:r[z]? =some r[z]:=nx ad
  generalize r[z]=a at y
  have U:=ze y
  obtain⟨F,P⟩:=K a U
  have Z:(bif b then some true else zm (idx M a) λam=>some am)=some (b||decide (a∈A)):=by
   rw[cd (B:=M) F (by omega),Af,show decide (In M a)=decide (a∈A) from decide_eq_decide.2 (m3 a)]
   exact orE _ _
  have aa:(bif decide (¬(gI g).own v=As s.At) then zm (idx u a) λan=>some an else some false)=some (decide (¬(gI g).own v=As s.At)&&decide (0<=rk s.Region a/\rk s.Region a<=s.At)):=by
   rw[cd (B:=u) F (by omega),Af,show decide (In u a)=decide (0<=rk s.Region a/\rk s.Region a<=s.At) from decide_eq_decide.2 (by rw[ah,bB];exact⟨λd=>d.2,λd=>⟨⟨F,P⟩,d⟩⟩)]
   exact andE _ _
  have ab:∀H:Bool,(bif H then zm (idx M a) λao=>some (!ao) else some false)=some (H && !decide (a∈A)):=λH=>by
   rw[cd (B:=M) F (by omega),Af,show decide (In M a)=decide (a∈A) from decide_eq_decide.2 (m3 a)]
   exact andE _ _
  unfold eU
  rw[aS,y,Af,Z,Af,kR h (v:=v) ⟨Q,X⟩,Af,oQ a0,vH,aa,Af,ab,Af]
  by_cases p:¬(gI g).own v=As s.At/\(0<=rk s.Region a/\rk s.Region a<=s.At)/\a∉A
  .rw[decide_eq_true p.1,decide_eq_true p.2.1,decide_eq_false p.2.2]
   exact⟨_,rfl,rfl,p.1,a,U,p.2.2,p.2.1⟩
  .have:(decide (¬(gI g).own v=As s.At)&&decide (0<=rk s.Region a/\rk s.Region a<=s.At) && !decide (a∈A))=false:=by
    rw[Bool.eq_false_iff]
    intro d
    simp only[Bool.and_eq_true,decide_eq_true_iff,Au,decide_eq_false_iff_not]at d
    exact p ⟨d.1.1,d.1.2,d.2⟩
   rw[this,cond_false,bi y]
   refine⟨_,rfl,?_,λe C t Y l=>?_⟩
   .rw[Bool.or_eq_true,decide_eq_true_iff,N]
    constructor
    .rintro(⟨C,l,G⟩|t)
     .exact⟨C,zT _ l,G⟩
     .exact⟨a,by simp,t⟩
    .rintro⟨C,l,G⟩
     rcases yu.1 l with l|l
     .exact .inl ⟨C,l,G⟩
     .rw[yw]at l;subst l;exact .inr G
   .rcases yu.1 t with t|t
    .exact O e C t Y l
    .rw[yw]at t
     subst t
     exact zJ λd=>p ⟨e,⟨Y,l⟩,d⟩
 have ae:=jp (f:=gU g s M u) (r:=false) (λc _=>decide (k (c:Int))) (xs:=M) (n:=M.length) rfl (λc b i=>by
  have m:c<n:=by rw[← V];exact(yo.1 i).1
  obtain⟨r,I,x,_,K⟩:=sR h (v:=(c:Int)) (by omega) (by omega)
  unfold gU
  rw[cd (B:=M) (v:=(c:Int)) (by omega) (by omega),Af,show decide (In M (c:Int))=decide ((c:Int)∈A) from decide_eq_decide.2 (m3 _)]
  by_cases q:(c:Int)∈A
  .rw[decide_eq_true q,zG,cond_false,I,Af]
   obtain⟨w,L,j⟩:=af (c:Int) (by omega) (by omega) r I x K
   rw[L,Af]
   match w,j with
   |.inl b,j=>
    obtain⟨rfl,D,a,P,aj,ak,al⟩:=j
    have:¬k (c:Int):=λd=>aj ((d q).2 D a (by rw[x];exact P) ak al)
    rw[decide_eq_false this]
    rfl
   |.inr b,j=>
    obtain⟨D,ai⟩:=j.resolve_right id
    rw[aU,kR h (v:=(c:Int)) ⟨by omega,by omega⟩,Af,oQ a0,tg,show(bif decide ((gI g).own (c:Int)=As s.At) then some (!b) else some false)=some (decide ((gI g).own (c:Int)=As s.At) && !b) from andE _ _,Af]
    by_cases e:(gI g).own (c:Int)=As s.At
    .rw[decide_eq_true e,Bool.true_and]
     cases b with
     |true=>
      have:k (c:Int):=λ_=>⟨λ_=>by rw[x];exact D.1 rfl,λd=>absurd e d⟩
      rw[decide_eq_true this];rfl
     |false=>
      have:¬k (c:Int):=λd=>by
       have:=(d q).1 e
       rw[x]at this
       cases D.2 this
      rw[decide_eq_false this];rfl
    .rw[decide_eq_false e,Bool.false_and]
     have:k (c:Int):=λ_=>⟨λd=>absurd d e,λd=>by rw[x];exact ai d⟩
     rw[decide_eq_true this];rfl
  .rw[decide_eq_false q]
   have:k (c:Int):=λd=>absurd d q
   rw[decide_eq_true this];rfl)
 unfold kn
 rw[hA,Af,m1,Af,ke h hR,Af,ag,Af,ae,Af]
 have S:(M.zipIdx.all λE=>decide (k (E.2:Int)))=true↔∀c:Nat,c<n->k (c:Int):=by
  rw[List.all_eq_true]
  constructor
  .intro d c m
   obtain⟨b,i⟩:=bg (xs:=M) (i:=(c:Int)) (by omega) (by omega)
   rw[aS]at i
   have:=d (b,c) (ze (i:=c) (by rw[List.getElem?_zipIdx,i];simp))
   exact of_decide_eq_true this
  .intro d E hp
   obtain⟨c,m⟩:=List.mem_iff_getElem?.1 hp
   rw[List.getElem?_zipIdx]at m
   cases i:M[c]? with
   |none=>rw[i]at m;cases m
   |some b=>
    rw[i]at m
    simp at m
    subst m
    exact decide_eq_true (d c (by rw[← V];exact(yo.1 i).1))
 have T:(∀c:Nat,c<n->k (c:Int))↔(∀v,v∈A->(gI g).own v=As s.At->∃a,(gI g).E v a/\a∈A)/\∀v a,v∈A->¬(gI g).own v=As s.At->(gI g).E v a->0<=rk s.Region a->rk s.Region a<=s.At->a∈A:=by
  constructor
  .intro d
   have W:∀v∈A,k v:=λv o=>by
    obtain⟨Q,X⟩:=R v o
    obtain⟨c,rfl⟩:=bA Q
    exact d c (by omega)
   exact⟨λv o e=>(W v o o).1 e,λv a o e ac=>(W v o o).2 e a ac⟩
  .rintro⟨N,O⟩ c m q
   exact⟨λe=>N _ q e,λe a y=>O _ a q e y⟩
 cases i:(M.zipIdx.all λE=>decide (k (E.2:Int))) with
 |true=>
  rw[if_pos rfl]
  exact⟨true,rfl,λ_=>T.1 (S.1 i),λ_=>rfl⟩
 |false=>
  rw[if_neg (by decide)]
  exact⟨false,rfl,λd=>(by cases d),λd=>by rw[S.2 (T.2 d)]at i;cases i⟩
end
end
section
open Classical
def Best (P:Int->Prop) (s:Int):Prop:=(s= -1/\∀a,¬P a)\/(0<=s/\P s/\∀a,P a->s<=a)
theorem Best.congr {P Q:Int->Prop}{s:Int}(h:Best P s) (e:∀a,P a↔Q a):Best Q s:=by
 have:P=Q:=funext λa=>propext (e a)
 exact this ▸ h
theorem Best.add {P:Int->Prop}{s x:Int}(h:Best P s) (h0:0<=x):Best (λa=>P a\/a=x) (bif (bif decide (s<0) then true else decide (x<s)) then x else s):=by
 rcases h with ⟨rfl,h⟩|⟨f,g,d⟩
 .exact .inr ⟨h0,.inr rfl,λa c=>c.elim (λb=>absurd b (h a)) λb=>by rw[b];exact Av x⟩
 .rw[decide_eq_false (by omega:¬s<0),cond_false]
  by_cases e:x<s
  .rw[decide_eq_true e,cond_true]
   exact .inr ⟨h0,.inr rfl,λa c=>c.elim (λb=>by have:=d a b;omega) λb=>by omega⟩
  .rw[decide_eq_false e,cond_false]
   exact .inr ⟨f,.inl g,λa c=>c.elim (d a) λb=>by omega⟩
section
variable {g:Parity}{n:Nat}(h:GOk g n){s:Stage}(hR:s.Region.length=n) (a0:0<=s.At)
include h hR a0
theorem vP {A:VI}(hA:cZ g s=some A) (C:∀v∈A,0<=v/\v<n):∃e,gG g s=some e/\Best (λd=>∃v a,v∈A/\¬(gI g).own v=As s.At/\(gI g).E v a/\0<=rk s.Region a/\a∉A/\rk s.Region a=d) e:=by
 have hn:=h.n256
 obtain⟨M,m1,V,m3⟩:=kr h C
 obtain⟨e,y,z⟩:=ba (f:=dM g s M) (λb (e:Int)=>Best (λd=>∃v a,v<(b:Int)/\v∈A/\¬(gI g).own v=As s.At/\(gI g).E v a/\0<=rk s.Region a/\a∉A/\rk s.Region a=d) e) M.length (s:=(-1:Int)) (.inl ⟨rfl,λd ⟨v,a,X,P,_⟩=>by have:=C v P;omega⟩) (λb e T w=>by
  have U:b<n:=by omega
  obtain⟨r,L,F,_,N⟩:=sR h (v:=(b:Int)) (by omega) (by omega)
  unfold dM
  rw[cd (B:=M) (v:=(b:Int)) (by omega) (by omega),Af,show decide (In M (b:Int))=decide ((b:Int)∈A) from decide_eq_decide.2 (m3 _),kR h (v:=(b:Int)) ⟨by omega,by omega⟩,Af,jO a0,tg,show(bif !decide ((b:Int)∈A) then some true else some (decide ((gI g).own (b:Int)=As s.At)))=some (!decide ((b:Int)∈A)||decide ((gI g).own (b:Int)=As s.At)) from orE _ _,Af]
  by_cases o:(b:Int)∈A/\¬(gI g).own (b:Int)=As s.At
  .rw[decide_eq_true o.1,decide_eq_false o.2,zG,Bool.false_or,cond_false,L,Af]
   obtain⟨S,I,D⟩:=ba (f:=dN s M r) (λx (e:Int)=>Best (λd=>(∃v a,v<(b:Int)/\v∈A/\¬(gI g).own v=As s.At/\(gI g).E v a/\0<=rk s.Region a/\a∉A/\rk s.Region a=d)\/∃a∈r.take x,0<=rk s.Region a/\a∉A/\rk s.Region a=d) e) r.length (s:=e) (w.congr λd=>⟨.inl,λk=>k.elim id λ⟨a,p,_⟩=>by simp at p⟩) (λx e K w=>by
    have p:r[x]? =some r[x]:=nx K
    generalize r[x]=a at p
    obtain⟨H,W⟩:=N a (ze p)
    have y:(bif decide (0<=rk s.Region a) then zm (idx M a) λQ=>some (!Q) else some false)=some (decide (0<=rk s.Region a) && !decide (a∈A)):=by
     rw[cd (B:=M) H (by omega),Af,show decide (In M a)=decide (a∈A) from decide_eq_decide.2 (m3 a)]
     exact andE _ _
    unfold dN
    rw[aS,p,Af,gn (R:=s.Region) (v:=a) H (by omega),Af,y,Af,bi p]
    by_cases l:0<=rk s.Region a/\a∉A
    .rw[decide_eq_true l.1,decide_eq_false l.2,Bool.not_false,Bool.and_true,cond_true]
     have z:(zm (bif decide (e<0) then some true else some (decide (rk s.Region a<e))) λd=>some d)=some (bif decide (e<0) then true else decide (rk s.Region a<e)):=by cases decide (e<0) <;> rfl
     rw[z,Af,iteE,Af]
     refine⟨_,rfl,(w.add l.1).congr λd=>?_⟩
     rw[or_assoc]
     refine or_congr Iff.rfl ⟨?_,?_⟩
     .rintro(⟨m,c,j⟩|rfl)
      .exact⟨m,zT _ c,j⟩
      .exact⟨a,by simp,l.1,l.2,rfl⟩
     .rintro⟨m,c,j⟩
      rcases yu.1 c with c|c
      .exact .inl ⟨m,c,j⟩
      .rw[yw]at c;subst c;exact .inr j.2.2.symm
    .have:(decide (0<=rk s.Region a) && !decide (a∈A))=false:=by
      rw[Bool.eq_false_iff]
      intro k
      simp only[Bool.and_eq_true,decide_eq_true_iff,Au,decide_eq_false_iff_not]at k
      exact l k
     rw[this,cond_false,Af,cond_false,Af]
     refine⟨_,rfl,w.congr λd=>or_congr Iff.rfl ⟨?_,?_⟩⟩
     .rintro⟨m,c,j⟩;exact⟨m,zT _ c,j⟩
     .rintro⟨m,c,j⟩
      rcases yu.1 c with c|c
      .exact⟨m,c,j⟩
      .rw[yw]at c;subst c;exact absurd ⟨j.1,j.2.1⟩ l)
   rw[I,Af,aU]
   rw[Ac]at D
   refine⟨_,rfl,D.congr λd=>⟨?_,?_⟩⟩
   .rintro(⟨v,a,q,i⟩|⟨a,q,i,t,u⟩)
    .exact⟨v,a,by omega,i⟩
    .exact⟨_,a,by omega,o.1,o.2,by show a∈bm g.Arena (b:Int);rw[F];exact q,i,t,u⟩
   .rintro⟨v,a,q,i,t,u,G⟩
    by_cases O:v=(b:Int)
    .subst O
     exact .inr ⟨a,by rw[← F];exact u,G⟩
    .exact .inl ⟨v,a,by omega,i,t,u,G⟩
  .have:(!decide ((b:Int)∈A)||decide ((gI g).own (b:Int)=As s.At))=true:=by
    rw[Bool.or_eq_true,Au,decide_eq_false_iff_not,decide_eq_true_iff]
    by_cases E:(b:Int)∈A
    .exact .inr (zJ λk=>o ⟨E,k⟩)
    .exact .inl E
   rw[this,cond_true]
   refine⟨_,rfl,w.congr λd=>⟨λ⟨v,a,q,i⟩=>⟨v,a,by omega,i⟩,λ⟨v,a,q,i,t,u⟩=>⟨v,a,?_,i,t,u⟩⟩⟩
   have:v≠(b:Int):=λe=>o (by subst e;exact⟨i,t⟩)
   omega)
 unfold gG
 rw[hA,Af,m1,Af,y,Af,aU]
 exact⟨e,rfl,z.congr λd=>⟨λ⟨v,a,q,i⟩=>⟨v,a,i⟩,λ⟨v,a,k⟩=>⟨v,a,by have:=C v k.1;omega,k⟩⟩⟩
end
theorem sb {x:Type}{f:Int->VI->Option (x⊕(VI⊕VI))}{L R:VI}{c:Int}{n:Nat}(p:∀(j:Nat) (s:VI),f (j:Int) s=zm (idx L (j:Int)) λk=>zm (idx s k) λ_=>zm (setI s k c) λw=>some (.inr (.inr w))) (hR:R.length=n) (o:∀v∈L,0<=v/\v<n):
 ∃R',cntM f L.length 0 R=some (.inr R')/\R'.length=n/\∀v,rk R' v=if v∈L then c else rk R v:=by
 obtain⟨s,l,m,d⟩:=ba (f:=f) (λj (s:VI)=>s.length=n/\∀v,rk s v=if v∈L.take j then c else rk R v) L.length (s:=R) ⟨hR,λv=>by simp⟩ (λj s q ⟨A,t⟩=>by
  have b:L[j]? =some L[j]:=nx q
  generalize L[j]=u at b
  obtain⟨g,C⟩:=o u (ze b)
  obtain⟨z,r⟩:=bg (xs:=s) (i:=u) g (by omega)
  obtain⟨B,hs,y⟩:=bj (xs:=s) (i:=u) c g (by omega)
  rw[p,aS,b,Af,r,Af,hs,Af,bi b]
  refine⟨_,rfl,by omega,λv=>?_⟩
  rw[lF hs,t]
  by_cases e:v=u
  .rw[if_pos e,if_pos (by simp[e])]
  .rw[if_neg e]
   by_cases a:v∈L.take j
   .rw[if_pos a,if_pos (by simp[a])]
   .rw[if_neg a,if_neg (by simp[e,a])])
 rw[Ac]at d
 exact⟨s,l,m,d⟩
end
section
open Classical
noncomputable def num (n:Nat) (P:Int->Prop):Nat:=(lst n P).length
section
variable {n:Nat}{P Q:Int->Prop}
theorem sF:num n P<=n:=je
theorem uR (h:∀v,P v->Q v):num n P<=num n Q:=gl (cH (mj n P)) λa b=>(bB a).2 ⟨((bB a).1 b).1,h a ((bB a).1 b).2⟩
theorem pH (h:∀v:Int,0<=v->v<n->(P v↔Q v)):num n P=num n Q:=by
 unfold num
 congr 1
 refine mF (mj _ _) (mj _ _) λb=>?_
 rw[bB,bB]
 exact⟨λa=>⟨a.1,(h b a.1.1 a.1.2).1 a.2⟩,λa=>⟨a.1,(h b a.1.1 a.1.2).2 a.2⟩⟩
theorem sG {w:Int}(h:∀v,P v->Q v) (d:0<=w) (e:w<n) (hw:Q w) (hn:¬P w):num n P<num n Q:=by
 have:=gl (xs:=w::lst n P) (ys:=lst n Q) (List.nodup_cons.2 ⟨λc=>hn ((bB w).1 c).2,cH (mj n P)⟩) λb a=>by
  rcases yv.1 a with rfl|a
  .exact(bB _).2 ⟨⟨d,e⟩,hw⟩
  .exact(bB b).2 ⟨((bB b).1 a).1,h b ((bB b).1 a).2⟩
 exact this
theorem wl {w:Int}(b:0<=w) (c:w<n) (hw:P w):0<num n P:=Nat.lt_of_le_of_lt (AH _) (sG (P:=λ_=>False) (λ_ a=>a.elim) b c hw id)
end
noncomputable def dcnt (n:Nat) (R:VI) (a:Int) (p:Int):Nat:=if a<=p then num n (λv=>rk R v=p) else 0
noncomputable def msr (n:Nat) (s:Stage):Nat:=(n-num n λv=>0<=rk s.Region v) * 32768+(dcnt n s.Region s.At 0+dcnt n s.Region s.At 1 * 8+dcnt n s.Region s.At 2 * 64+dcnt n s.Region s.At 3 * 512+dcnt n s.Region s.At 4 * 4096)
theorem tn {n:Nat}{R:VI}{a p:Int}:dcnt n R a p<=n:=by
 unfold dcnt
 split
 .exact sF
 .exact AH _
structure StOk (g:Parity) (n:Nat) (s:Stage):Prop where
 lw:s.Won.length=n
 lr:s.Region.length=n
 rng:∀v,rk s.Region v= -1\/0<=rk s.Region v/\rk s.Region v<=4
 wr:∀v,rk s.Won v= -1\/rk s.Won v=0\/rk s.Won v=1
 op:∀v:Int,0<=v->v<n->(0<=rk s.Region v↔rk s.Won v= -1)
 part:Par.Part (gI g) (Xn n) (λv=>0<=rk s.Region v) (λq v=>rk s.Won v=b2i q)
 stg:(s.At= -1/\∀v,¬0<=rk s.Region v)\/(0<=s.At/\s.At<=4/\(∃v,0<=rk s.Region v/\rk s.Region v=s.At)/\Par.Stg (gI g) (λv=>0<=rk s.Region v) (rk s.Region) s.At)
section
variable {g:Parity}{n:Nat}(h:GOk g n) (hn:n<=6) (hp:∀v:Int,0<=v->v<n->(gI g).pri v<=4){s:Stage}(hs:StOk g n s) (a0:0<=s.At) (a4:s.At<=4) (hS:Par.Stg (gI g) (λv=>0<=rk s.Region v) (rk s.Region) s.At)
include h
theorem dD {v:Int}(a:0<=v) (b:v<n):idx g.Prio v=some ((gI g).pri v)/\0<=(gI g).pri v:=by
 have:=fR (P:=g.Prio) (v:=v) a (by have:=h.lp;omega)
 exact⟨this,(h.pri _ _ this).1⟩
include hn hp hs a0 a4 hS
omit h hn hp in
theorem yf {A:VI}{R:VI}{a':Int}(hA:AJ (gI g) (λv=>0<=rk s.Region v/\rk s.Region v<=s.At) (As s.At) (λv=>0<=rk s.Region v/\rk s.Region v=s.At) (·∈A)) (hR:R.length=n) (d:∀v,rk R v=if v∈A then s.At else rk s.Region v)
 (z:∀v,0<=rk s.Region v->rk s.Region v<=s.At->v∉A->rk s.Region v<=a') {b:Int} (m:0<=rk s.Region b) (G:rk s.Region b<=s.At) (o:b∉A) (x:rk s.Region b=a'):
 StOk g n ⟨s.Won,R,a'⟩/\msr n s<msr n ⟨s.Won,R,a'⟩:=by
 have q:a'<s.At:=by
  have:rk s.Region b≠s.At:=λe=>o (Par.Stg.baseA hA m e)
  omega
 have p:∀v∈A,0<=rk s.Region v/\rk s.Region v<=s.At:=hA.sub
 have r:∀v,0<=rk R v↔0<=rk s.Region v:=λv=>by
  rw[d]
  split
  .rename_i e;exact⟨λ_=>(p v e).1,λ_=>a0⟩
  .exact Iff.rfl
 have k:(λv=>0<=rk s.Region v)=λv=>0<=rk R v:=funext λv=>propext (r v).symm
 have u:=cT hs.lr m
 have t:rk R b=a':=by rw[d,if_neg o,x]
 refine⟨⟨hs.lw,hR,λv=>?_,hs.wr,λv b F=>(r v).trans (hs.op v b F),by dsimp only;rw[← k];exact hs.part,.inr ⟨by dsimp only;omega,by dsimp only;omega,⟨b,by dsimp only;omega,t⟩,?_⟩⟩,?_⟩
 .dsimp only
  rw[d]
  split
  .exact .inr ⟨a0,a4⟩
  .exact hs.rng v
 .dsimp only
  rw[← k]
  exact hS.lower hA (λv i=>by rw[d,if_pos i]) (λv i hn=>by rw[d,if_neg hn]) q z
 .have w:num n (λv=>0<=rk R v)=num n (λv=>0<=rk s.Region v):=by rw[k]
  have f:∀j,s.At<j->num n (λv=>rk R v=j)=num n (λv=>rk s.Region v=j):=λj hp=>pH λv _ _=>by
   rw[d]
   split
   .rename_i e
    have:=(p v e).2
    constructor <;> intro H <;> omega
   .exact Iff.rfl
  have at_:num n (λv=>rk s.Region v=s.At)<=num n (λv=>rk R v=s.At):=uR λv i=>by
   rw[d]
   split
   .rfl
   .exact i
  have dn:0<num n (λv=>rk R v=a'):=wl u.1 u.2 t
  unfold msr dcnt
  dsimp only
  rw[w]
  have y:0<=a':=by omega
  have l:∀c I:Int,0<=c->c<=4->(c=0\/c=1\/c=2\/c=3\/c=4):=λc _ _ _=>by omega
  generalize s.At=a at a0 a4 q at_ f ⊢
  rcases l a 0 a0 a4 with rfl|rfl|rfl|rfl|rfl <;> rcases l a' 0 y (by omega) with rfl|rfl|rfl|rfl|rfl <;> first|omega|(
   have B:=f 1
   have C:=f 2
   have D:=f 3
   have E:=f 4
   simp at B C D E ⊢
   omega)
theorem yg {A:VI}{R:VI}{e:Int}(hA:AJ (gI g) (λv=>0<=rk s.Region v/\rk s.Region v<=s.At) (As s.At) (λv=>0<=rk s.Region v/\rk s.Region v=s.At) (·∈A)) (hR:R.length=n)
 (i:∀v,rk R v=if v∈A then e else if 0<=rk s.Region v/\rk s.Region v<e then(gI g).pri v else rk s.Region v)
 (N:∀v,v∈A->(gI g).own v=As s.At->∃b,(gI g).E v b/\b∈A) (Q:∀v b,v∈A->¬(gI g).own v=As s.At->(gI g).E v b->0<=rk s.Region b->rk s.Region b<=s.At->b∈A)
 (o:0<=e) (M:Best (λf=>∃v b,v∈A/\¬(gI g).own v=As s.At/\(gI g).E v b/\0<=rk s.Region b/\b∉A/\rk s.Region b=f) e):StOk g n ⟨s.Won,R,e⟩/\msr n s<msr n ⟨s.Won,R,e⟩:=by
 rcases M with ⟨x,_⟩|⟨_,⟨j,Z,l,G,H,I,K,L⟩,O⟩
 .omega
 have m:∀v∈A,0<=rk s.Region v/\rk s.Region v<=s.At:=hA.sub
 have t:e<=4:=by have:=hs.rng Z;omega
 have B:∀v,0<=rk s.Region v->0<=(gI g).pri v/\(gI g).pri v<=4:=λv d=>by
  obtain⟨j,r⟩:=cT hs.lr d
  exact⟨(dD h j r).2,hp v j r⟩
 have z:∀v,0<=rk R v↔0<=rk s.Region v:=λv=>by
  rw[i]
  split
  .rename_i e;exact⟨λ_=>(m v e).1,λ_=>o⟩
  .split
   .rename_i e;exact⟨λ_=>e.1,λ_=>(B v e.1).1⟩
   .exact Iff.rfl
 have u:(λv=>0<=rk s.Region v)=λv=>0<=rk R v:=funext λv=>propext (z v).symm
 obtain⟨S,T⟩:=hS.promote hA N Q l G H I K L (λv b U V W X Y=>O _ ⟨v,b,U,V,W,X,Y,rfl⟩) (r':=rk R) (λv d=>by rw[i,if_pos d]) (λv d hn y=>by rw[i,if_neg hn,if_pos ⟨d,y⟩]) (λv d hn y=>by rw[i,if_neg hn,if_neg (λk=>by omega)])
 have E:=cT hs.lr (m j l).1
 have C:rk R j=e:=by rw[i,if_pos l]
 refine⟨⟨hs.lw,hR,λv=>?_,hs.wr,λv j r=>(z v).trans (hs.op v j r),by dsimp only;rw[← u];exact hs.part,.inr ⟨o,t,⟨j,by dsimp only;omega,C⟩,by dsimp only;rw[← u];exact S⟩⟩,?_⟩
 .dsimp only
  rw[i]
  split
  .exact .inr ⟨o,t⟩
  .split
   .rename_i k;exact .inr (B v k.1)
   .exact hs.rng v
 .have x:num n (λv=>0<=rk R v)=num n (λv=>0<=rk s.Region v):=by rw[u]
  have F:∀v c,e<=c->v∉A->(rk R v=c↔rk s.Region v=c):=λv c P hn=>by
   rw[i,if_neg hn]
   split
   .rename_i k
    have:=hS.low v k.1
    constructor <;> intro ai <;> omega
   .exact Iff.rfl
  have q:∀c,e<c->num n (λv=>rk R v=c)=num n (λv=>rk s.Region v=c):=λc P=>pH λv _ _=>by
   by_cases d:v∈A
   .have:=(m v d).2
    rw[i,if_pos d]
    constructor <;> intro k <;> omega
   .exact F v c (by omega) d
  have at_:num n (λv=>rk s.Region v=e)<num n (λv=>rk R v=e):=sG (λv d=>by
   by_cases D:v∈A
   .rw[i,if_pos D]
   .exact(F v e (Av e) D).2 d) E.1 E.2 C (by have:=(m j l).2;omega)
  have p:∀c,num n (λv=>rk s.Region v=c)<=6:=λc=>Ae sF hn
  unfold msr dcnt
  dsimp only
  rw[x]
  have w:∀f:Int,0<=f->f<=4->(f=0\/f=1\/f=2\/f=3\/f=4):=λf _ _=>by omega
  generalize s.At=a at a0 a4 T ⊢
  have ae:=p 0
  have af:=p 1
  have ag:=p 2
  have ah:=p 3
  rcases w a a0 a4 with rfl|rfl|rfl|rfl|rfl <;> rcases w e o t with rfl|rfl|rfl|rfl|rfl <;> first|omega|(
   have aa:=q 1
   have ab:=q 2
   have ac:=q 3
   have ad:=q 4
   simp at aa ab ac ad ⊢
   omega)
end
end
section
open Classical
section
variable {g:Parity}{n:Nat}(h:GOk g n) (hn:n<=6) (hp:∀v:Int,0<=v->v<n->(gI g).pri v<=4){s:Stage}(hs:StOk g n s) (a0:0<=s.At) (a4:s.At<=4) (hS:Par.Stg (gI g) (λv=>0<=rk s.Region v) (rk s.Region) s.At)
include h hn hp hs a0 a4 hS
omit a0 a4 in
theorem yh {A D K R:VI}{a':Int}(hA:AJ (gI g) (λv=>0<=rk s.Region v/\rk s.Region v<=s.At) (As s.At) (λv=>0<=rk s.Region v/\rk s.Region v=s.At) (·∈A))
 (I:∀v,v∈A->(gI g).own v=As s.At->∃c,(gI g).E v c/\c∈A) (N:∀v c,v∈A->¬(gI g).own v=As s.At->(gI g).E v c->0<=rk s.Region c->c∈A)
 (m:AJ (gI g) (λv=>0<=rk s.Region v) (As s.At) (·∈A) (·∈D)) (F:K.length=n) (hR:R.length=n) (o:∀v,rk K v=if v∈D then b2i (As s.At) else rk s.Won v)
 (u:∀v,rk R v=if v∈D then -1 else if 0<=rk s.Region v then(gI g).pri v else -1) {w:Int} (hw:0<=rk s.Region w) (M:rk s.Region w=s.At)
 (ha:(a'= -1/\∀v,¬0<=rk R v)\/∃v,0<=rk R v/\rk R v=a'/\∀c,0<=rk R c->rk R c<=a'):StOk g n ⟨K,R,a'⟩/\msr n s<msr n ⟨K,R,a'⟩:=by
 have t:∀v,0<=rk s.Region v->0<=(gI g).pri v/\(gI g).pri v<=4:=λv b=>by
  obtain⟨q,r⟩:=cT hs.lr b
  exact⟨(dD h q r).2,hp v q r⟩
 have E:∀v∈D,0<=rk s.Region v:=m.sub
 have d:∀v,0<=rk R v↔0<=rk s.Region v/\v∉D:=λv=>by
  rw[u]
  by_cases b:v∈D
  .rw[if_pos b];exact⟨λa=>by omega,λa=>absurd b a.2⟩
  .rw[if_neg b]
   by_cases j:0<=rk s.Region v
   .rw[if_pos j];exact⟨λ_=>⟨j,b⟩,λ_=>(t v j).1⟩
   .rw[if_neg j];exact⟨λa=>by omega,λa=>absurd a.1 j⟩
 have x:Par.Mn (λv=>0<=rk s.Region v) (·∈D)=λv=>0<=rk R v:=funext λv=>propext (d v).symm
 have p:∀v,0<=rk R v->rk R v=(gI g).pri v:=λv b=>by
  obtain⟨f,l⟩:=(d v).1 b
  rw[u,if_neg l,if_pos f]
 have H:Par.Dom (gI g) (λv=>0<=rk s.Region v) (As s.At) (·∈A):=hS.dom hA I N
 have G:∀e a:Bool,b2i e=b2i a->e=a:=λe a=>by cases e <;> cases a <;> simp[b2i]
 have L:w∈D:=m.base w hw (Par.Stg.baseA hA hw M)
 have z:=cT hs.lr hw
 refine⟨⟨F,hR,λv=>?_,λv=>?_,λv q r=>?_,?_,?_⟩,?_⟩
 .dsimp only
  by_cases b:0<=rk R v
  .rw[p v b];exact .inr (t v ((d v).1 b).1)
  .rw[u]
   by_cases a:v∈D
   .rw[if_pos a];exact .inl rfl
   .rw[if_neg a]
    by_cases C:0<=rk s.Region v
    .exact absurd ((d v).2 ⟨C,a⟩) b
    .rw[if_neg C];exact .inl rfl
 .dsimp only
  rw[o]
  split
  .have:=nV (As s.At);omega
  .exact hs.wr v
 .dsimp only
  rw[d,o]
  by_cases a:v∈D
  .rw[if_pos a]
   have:=nV (As s.At)
   exact⟨λk=>absurd a k.2,λk=>by omega⟩
  .rw[if_neg a,← hs.op v q r]
   exact⟨λk=>k.1,λk=>⟨k,a⟩⟩
 .dsimp only
  rw[← x]
  refine hs.part.step H m (λv=>?_) λv=>?_
  .rw[o]
   by_cases a:v∈D
   .rw[if_pos a];exact⟨λ_=> .inr a,λ_=>rfl⟩
   .rw[if_neg a];exact⟨.inl,λk=>k.resolve_right a⟩
  .rw[o]
   by_cases a:v∈D
   .rw[if_pos a]
    have B:=E v a
    have b:=cT hs.lr B
    have:=(hs.op v b.1 b.2).1 B
    constructor
    .intro k;have:=G _ _ k;revert this;cases As s.At <;> simp
    .intro k;have:=nV (!As s.At);omega
   .rw[if_neg a]
 .dsimp only
  rcases ha with ⟨f,l⟩|⟨v,f,l,O⟩
  .exact .inl ⟨f,l⟩
  .have X:=t v ((d v).1 f).1
   have Y:=p v f
   refine .inr ⟨by omega,by omega,⟨v,f,l⟩,Par.Stg.first ?_ p λc y=>by rw[← p c y];exact O c y⟩
   rw[← x]
   exact hS.dead.less m
 .have V:num n (λv=>0<=rk R v)<num n (λv=>0<=rk s.Region v):=sG (λv b=>((d v).1 b).1) z.1 z.2 hw λa=>((d w).1 a).2 L
  have W:num n (λv=>0<=rk s.Region v)<=n:=sF
  have i:∀e,dcnt n s.Region s.At e<=6:=λe=>Ae tn hn
  unfold msr
  dsimp only
  have P:=i 0
  have Q:=i 1
  have S:=i 2
  have T:=i 3
  have U:=i 4
  omega
end
end
section
open Classical
section
variable {g:Parity}{n:Nat}(h:GOk g n) (hn:n<=6) (hp:∀v:Int,0<=v->v<n->(gI g).pri v<=4)
include h
theorem tT {R:VI}{e:Int}(hR:R.length=n):∃R',cntM (cm g e) R.length 0 R=some (.inr R')/\R'.length=n/\∀v,rk R' v=if 0<=rk R v/\rk R v<e then(gI g).pri v else rk R v:=by
 obtain⟨s,o,p,q⟩:=ba (f:=cm g e) (λa (s:VI)=>s.length=n/\∀v,rk s v=if v<(a:Int)/\0<=rk R v/\rk R v<e then(gI g).pri v else rk R v) R.length (s:=R) ⟨hR,λv=>by
  split
  .rename_i c
   have:=cT (s:=⟨[],R,0⟩) hR c.2.1
   omega
  .rfl⟩ (λa s x ⟨w,l⟩=>by
  have r:=gn (R:=s) (v:=(a:Int)) (by omega) (by omega)
  have t:rk s (a:Int)=rk R (a:Int):=by rw[l,if_neg (by omega)]
  have u:=(dD h (v:=(a:Int)) (by omega) (by omega)).1
  obtain⟨z,hs,y⟩:=bj (xs:=s) (i:=(a:Int)) ((gI g).pri (a:Int)) (by omega) (by omega)
  unfold cm
  rw[r,Af,t,show(bif decide (0<=rk R (a:Int)) then some (decide (rk R (a:Int)<e)) else some false)=some (decide (0<=rk R (a:Int))&&decide (rk R (a:Int)<e)) from andE _ _,Af,← Bool.decide_and]
  by_cases k:0<=rk R (a:Int)/\rk R (a:Int)<e
  .rw[decide_eq_true k,cond_true,u,Af,Af,hs,Af,Af]
   refine⟨_,rfl,by omega,λv=>?_⟩
   rw[lF hs,l]
   by_cases j:v=(a:Int)
   .subst j;rw[if_pos rfl,if_pos ⟨by omega,k⟩]
   .rw[if_neg j]
    by_cases b:v<(a:Int)/\0<=rk R v/\rk R v<e
    .rw[if_pos b,if_pos ⟨by omega,b.2⟩]
    .rw[if_neg b,if_neg (λc=>b ⟨by omega,c.2⟩)]
  .rw[decide_eq_false k,cond_false,Af]
   refine⟨_,rfl,w,λv=>?_⟩
   rw[l]
   by_cases b:v<(a:Int)/\0<=rk R v/\rk R v<e
   .rw[if_pos b,if_pos ⟨by omega,b.2⟩]
   .rw[if_neg b,if_neg]
    rintro⟨c,m⟩
    by_cases j:v=(a:Int)
    .subst j;exact k m
    .exact b ⟨by omega,m⟩)
 refine⟨s,o,p,λv=>?_⟩
 rw[q]
 by_cases d:0<=rk R v/\rk R v<e
 .have:=cT (s:=⟨[],R,0⟩) hR d.1
  rw[if_pos ⟨by omega,d⟩,if_pos d]
 .rw[if_neg (λc=>d c.2),if_neg d]
theorem sn {R:VI}(hR:R.length=n):∃R' r,cntM (cb g) R.length 0 (-1,R)=some (.inr (r,R'))/\R'.length=n/\(∀v,rk R' v=if 0<=rk R v then(gI g).pri v else rk R v) /\
 ((r= -1/\∀v,¬0<=rk R v)\/∃v,0<=rk R v/\(gI g).pri v=r/\∀c,0<=rk R c->(gI g).pri c<=r):=by
 obtain⟨⟨a,s⟩,E,F,G,z⟩:=ba (f:=cb g) (λb (s:Int×VI)=>s.2.length=n/\(∀v,rk s.2 v=if v<(b:Int)/\0<=rk R v then(gI g).pri v else rk R v)/\((s.1= -1/\∀v,v<(b:Int)->¬0<=rk R v)\/∃v,v<(b:Int)/\0<=rk R v/\(gI g).pri v=s.1/\∀c,c<(b:Int)->0<=rk R c->(gI g).pri c<=s.1)) R.length (s:=(-1,R)) ⟨hR,λv=>by
  split
  .rename_i j
   have:=cT (s:=⟨[],R,0⟩) hR j.2
   omega
  .rfl,.inl ⟨rfl,λv e j=>by
   have:=cT (s:=⟨[],R,0⟩) hR j
   omega⟩⟩ (λb s M ⟨t,m,p⟩=>by
  obtain⟨a,s⟩:=s
  dsimp only at t m p
  have H:=gn (R:=s) (v:=(b:Int)) (by omega) (by omega)
  have I:rk s (b:Int)=rk R (b:Int):=by rw[m,if_neg (by omega)]
  obtain⟨K,O⟩:=dD h (v:=(b:Int)) (by omega) (by omega)
  obtain⟨P,hs,N⟩:=bj (xs:=s) (i:=(b:Int)) ((gI g).pri (b:Int)) (by omega) (by omega)
  unfold cb
  dsimp only
  rw[H,Af,I]
  by_cases l:0<=rk R (b:Int)
  .rw[decide_eq_true l,cond_true,K,Af,Af,hs,Af,Af,Af]
   refine⟨_,rfl,by dsimp only;omega,λv=>?_,.inr ?_⟩
   .dsimp only
    rw[lF hs,m]
    by_cases d:v=(b:Int)
    .subst d;rw[if_pos rfl,if_pos ⟨by omega,l⟩]
    .rw[if_neg d]
     by_cases k:v<(b:Int)/\0<=rk R v
     .rw[if_pos k,if_pos ⟨by omega,k.2⟩]
     .rw[if_neg k,if_neg (λj=>k ⟨by omega,j.2⟩)]
   .dsimp only
    rcases p with ⟨rfl,q⟩|⟨v,L,x,y,u⟩
    .rw[if_pos (by omega)]
     exact⟨_,by omega,l,rfl,λc w o=>by
      by_cases d:c=(b:Int)
      .rw[d];exact Av _
      .exact absurd o (q c (by omega))⟩
    .by_cases A:a<(gI g).pri (b:Int)
     .rw[if_pos A]
      exact⟨_,by omega,l,rfl,λc w o=>by
       by_cases d:c=(b:Int)
       .rw[d];exact Av _
       .have:=u c (by omega) o;omega⟩
     .rw[if_neg A]
      exact⟨v,by omega,x,y,λc w o=>by
       by_cases d:c=(b:Int)
       .rw[d];omega
       .exact u c (by omega) o⟩
  .rw[decide_eq_false l,cond_false,Af]
   refine⟨_,rfl,t,λv=>?_,?_⟩
   .dsimp only
    rw[m]
    by_cases k:v<(b:Int)/\0<=rk R v
    .rw[if_pos k,if_pos ⟨by omega,k.2⟩]
    .rw[if_neg k,if_neg]
     rintro⟨j,D⟩
     by_cases d:v=(b:Int)
     .subst d;exact l D
     .exact k ⟨by omega,D⟩
   .dsimp only
    rcases p with ⟨p,q⟩|⟨v,L,x,y,u⟩
    .exact .inl ⟨p,λv e j=>by
      by_cases d:v=(b:Int)
      .subst d;exact l j
      .exact q v (by omega) j⟩
    .exact .inr ⟨v,by omega,x,y,λc w o=>by
      by_cases d:c=(b:Int)
      .subst d;exact absurd o l
      .exact u c (by omega) o⟩)
 refine⟨s,a,E,F,λv=>?_,?_⟩
 .have:=G v
  dsimp only at this
  rw[this]
  by_cases e:0<=rk R v
  .have:=cT (s:=⟨[],R,0⟩) hR e
   rw[if_pos ⟨by omega,e⟩,if_pos e]
  .rw[if_neg (λj=>e j.2),if_neg e]
 .dsimp only at z
  have B:∀v,0<=rk R v->v<(R.length:Int):=λv e=>by
   have:=cT (s:=⟨[],R,0⟩) hR e
   omega
  rcases z with ⟨t,m⟩|⟨v,_,m,p,q⟩
  .exact .inl ⟨t,λv e=>m v (B v e) e⟩
  .exact .inr ⟨v,m,p,λc C=>q c (B c C) C⟩
end
end
section
open Classical
section
variable {g:Parity}{n:Nat}(h:GOk g n) (hn:n<=6) (hp:∀v:Int,0<=v->v<n->(gI g).pri v<=4)
include h hn hp
theorem sK {s:Stage}(hs:StOk g n s) (ha:s.At≠ -1):∃ad k,er g s=some (ad,k)/\StOk g n ad/\msr n s<msr n ad:=by
 rcases hs.stg with ⟨d,_⟩|⟨a0,a4,⟨w,ao,aL⟩,hS⟩
 .exact absurd d ha
 have hw:=cT hs.lr ao
 obtain⟨A,Z,an,B,M⟩:=uc h hs.lr hS a0 (by omega)
 have aO:=nH an B
 obtain⟨b,ap,af⟩:=wG h hs.lr a0 Z B
 have t:=hs.lr
 have az:=hs.lw
 unfold er jb
 rw[appL (by rw[zS];omega) rfl,Af,appL (by rw[zS];omega) rfl,Af,Af,Z,Af,ap,Af]
 simp only[List.nil_append]
 cases b with
 |false=>
  rw[Bool.not_false,cond_true]
  obtain⟨R,aa,ab,ac⟩:=sb (f:=d8 s A) (L:=A) (R:=s.Region) (c:=s.At) (λl x=>rfl) t B
  rw[aa,Af,aU,ke h t,Af,kN an (by omega) (by have:=je (n:=n) (D:=λv=>0<=rk s.Region v/\rk s.Region v<=s.At);omega),Af]
  generalize hL:((lst n λv=>0<=rk s.Region v/\rk s.Region v<=s.At).filter λaM=> !decide (aM∈A))=L
  have K:∀v,v∈L↔(0<=rk s.Region v/\rk s.Region v<=s.At)/\v∉A:=λv=>by
   rw[← hL,zV,bB]
   simp only[Au,decide_eq_false_iff_not]
   exact⟨λd=>⟨d.1.2,d.2⟩,λd=>⟨⟨cT t d.1.1,d.1⟩,d.2⟩⟩
  obtain⟨H,aw,ai,ax⟩:=ba (f:=cN s L) (λl (a:Int)=>(∀v∈L.take l,rk s.Region v<=a)/\((a= -1/\l=0)\/∃v∈L,rk s.Region v=a)) L.length (s:=(-1:Int)) ⟨λv o=>by simp at o,.inl ⟨rfl,rfl⟩⟩ (λl a Y ⟨q,m⟩=>by
   have p:L[l]? =some L[l]:=nx Y
   generalize L[l]=j at p
   have ak:=ze p
   have aE:=((K j).1 ak).1.1
   obtain⟨C,aI⟩:=cT t aE
   unfold cN
   rw[aS,p,Af,gn (R:=s.Region) (v:=j) C (by omega),Af,bi p]
   refine⟨_,rfl,λv o=>?_,.inr ?_⟩
   .rcases yu.1 o with o|o
    .have:=q v o
     split <;> omega
    .rw[yw]at o
     subst o
     split <;> omega
   .by_cases al:a<rk s.Region j
    .rw[if_pos al];exact⟨j,ak,rfl⟩
    .rw[if_neg al]
     rcases m with ⟨e,_⟩|m
     .omega
     .exact m)
  rw[aw,Af,aU]
  rw[Ac]at ai
  obtain⟨aK,Q,y,au⟩:=hS.rest M (λd=>by cases af.2 d)
  have aA:∃v∈L,rk s.Region v=H:=by
   rcases ax with ⟨_,d⟩|d
   .have:=(K aK).2 ⟨⟨Q,y⟩,au⟩
    rw[List.length_eq_zero_iff.1 d]at this
    cases this
   .exact d
  obtain⟨aJ,T,U⟩:=aA
  obtain⟨⟨z,V⟩,av⟩:=(K aJ).1 T
  obtain⟨E,F⟩:=yf hs a0 a4 hS M ab ac (λv r q m=>ai v ((K v).2 ⟨⟨r,q⟩,m⟩)) z V av U
  exact⟨_,_,rfl,E,F⟩
 |true=>
  rw[zG,cond_false]
  obtain⟨am,aF⟩:=af.1 rfl
  obtain⟨e,Q,y⟩:=vP h t a0 Z B
  rw[Q,Af]
  by_cases I:0<=e
  .rw[decide_eq_true I,cond_true]
   obtain⟨R1,aa,ab,ac⟩:=tT h (R:=s.Region) (e:=e) t
   obtain⟨R2,ae,N,G⟩:=sb (f:=d9 A e) (L:=A) (R:=R1) (c:=e) (λl x=>rfl) ab B
   rw[aa,Af,aU,ae,Af,aU]
   obtain⟨E,F⟩:=yg h hn hp hs a0 a4 hS M N (λv=>by rw[G,ac]) am aF I y
   exact⟨_,_,rfl,E,F⟩
  .rw[decide_eq_false I,cond_false]
   have aB:∀v j,v∈A->¬(gI g).own v=As s.At->(gI g).E v j->0<=rk s.Region j->j∈A:=λv j r q m aG=>by
    rcases y with ⟨_,y⟩|⟨d,_⟩
    .exact zJ λaH=>y _ ⟨v,j,r,q,m,aG,aH,rfl⟩
    .exact absurd d I
   have ah:(λv=>v∈lst n λv=>0<=rk s.Region v/\rk s.Region v<=40)=λv=>0<=rk s.Region v:=funext λv=>propext (by
    rw[bB]
    constructor
    .exact λd=>d.2.1
    .intro d
     have:=hs.rng v
     exact⟨cT t d,d,by omega⟩)
   have aP:=je (n:=n) (D:=λv=>0<=rk s.Region v/\rk s.Region v<=40)
   obtain⟨D,aq,aN,_,ar,ag⟩:=fk h (X:=lst n λv=>0<=rk s.Region v/\rk s.Region v<=40) (λv o=>((bB v).1 o).1) (by omega) (S:=A) B (by omega) (by rw[ah];exact hS.dead) (As s.At)
   rw[ah]at ag
   obtain⟨⟨P,R1⟩,ae,N,G,O⟩:=ba (f:=cO s D) (λl (x:VI×VI)=>x.1.length=n/\x.2.length=n/\∀v,rk x.1 v=(if v∈D.take l then b2i (As s.At) else rk s.Won v)/\rk x.2 v=if v∈D.take l then -1 else rk s.Region v) D.length (s:=(s.Won,s.Region)) ⟨az,t,λv=>by simp⟩ (λl x Y ⟨r,q,m⟩=>by
    obtain⟨P,R⟩:=x
    dsimp only at r q m
    have p:D[l]? =some D[l]:=nx Y
    generalize D[l]=j at p
    obtain⟨C,aI⟩:=ar j (ze p)
    obtain⟨aT,aC⟩:=bg (xs:=P) (i:=j) C (by omega)
    obtain⟨aV,aD⟩:=bg (xs:=R) (i:=j) C (by omega)
    obtain⟨K',aj,aQ⟩:=bj (xs:=P) (i:=j) (b2i (As s.At)) C (by omega)
    obtain⟨R',hR,aR⟩:=bj (xs:=R) (i:=j) (-1) C (by omega)
    unfold cO
    dsimp only
    rw[aS,p,Af,aC,Af,oQ a0,aj,Af,aD,Af,hR,Af,bi p]
    refine⟨_,rfl,by dsimp only;omega,by dsimp only;omega,λv=>?_⟩
    dsimp only
    rw[lF aj,lF hR,(m v).1,(m v).2]
    by_cases e:v=j
    .rw[if_pos e,if_pos e,if_pos (by simp[e]),if_pos (by simp[e])];exact⟨rfl,rfl⟩
    .rw[if_neg e,if_neg e]
     by_cases u:v∈D.take l
     .rw[if_pos u,if_pos u,if_pos (by simp[u]),if_pos (by simp[u])];exact⟨rfl,rfl⟩
     .rw[if_neg u,if_neg u,if_neg (by simp[e,u]),if_neg (by simp[e,u])];exact⟨rfl,rfl⟩)
   dsimp only at N G O
   rw[Ac]at O
   obtain⟨R2,H,T,U,z,V⟩:=sn h (R:=R1) G
   rw[ke h t,Af,oQ a0,aq,Af,ae,Af,aU]
   dsimp only
   rw[show s.Region.length=R1.length from by omega,T,Af,aU]
   have ay:∀v,rk R2 v=if v∈D then -1 else if 0<=rk s.Region v then(gI g).pri v else -1:=λv=>by
    rw[z,(O v).2]
    by_cases d:v∈D
    .rw[if_pos d,if_neg (by omega),if_pos d]
    .rw[if_neg d,if_neg d]
     split
     .rfl
     .have:=hs.rng v;omega
   have W:∀v,0<=rk R2 v↔0<=rk R1 v:=λv=>by
    rw[z]
    split
    .rename_i d
     have:=cT (s:=⟨[],R1,0⟩) G d
     exact⟨λ_=>d,λ_=>(dD h this.1 this.2).2⟩
    .exact Iff.rfl
   obtain⟨E,F⟩:=yh h hn hp hs hS M am aB ag N U (λv=>(O v).1) ay ao aL (a':=H) (by
    rcases V with ⟨r,q⟩|⟨v,r,q,m⟩
    .exact .inl ⟨r,λv o=>q v ((W v).1 o)⟩
    .exact .inr ⟨v,(W v).2 r,by rw[z,if_pos r];exact q,λj p=>by
      have:=(W j).1 p
      rw[z,if_pos this];exact m j this⟩)
   exact⟨_,_,rfl,E,F⟩
end
end
section
open Classical
theorem qq {n:Nat}(v:Int):rk (List.replicate n (-1)) v= -1:=by
 unfold rk
 cases e:idx (List.replicate n (-1:Int)) v with
 |none=>rfl
 |some a=>
  have:=ml e
  rw[List.mem_replicate]at this
  exact this.2
theorem uO {n:Nat}(hn:n<=6) (s:Stage):msr n s<=229376:=by
 have a:∀b,dcnt n s.Region s.At b<=6:=λb=>Ae tn hn
 have c:=a 0
 have d:=a 1
 have e:=a 2
 have f:=a 3
 have g:=a 4
 unfold msr
 generalize num n (λv=>0<=rk s.Region v)=k
 omega
section
variable {g:Parity}{n:Nat}(h:GOk g n) (h0:0<n) (hn:n<=6) (hp:∀v:Int,0<=v->v<n->(gI g).pri v<=4) (hN:Par.NoDead (gI g) (Xn n))
include h h0 hp hN
theorem uC:∃s,fq g=some s/\StOk g n s:=by
 have hn:=h.n256
 have d:=h.lp
 have b:∀v,Xn n v->rk g.Prio v=(gI g).pri v/\0<=(gI g).pri v:=λv a=>by
  obtain⟨j,k⟩:=dD h a.1 a.2
  exact⟨by unfold rk;rw[j];rfl,k⟩
 have f:∀v,0<=rk g.Prio v↔Xn n v:=λv=>by
  constructor
  .exact λc=>cT (s:=⟨[],g.Prio,0⟩) d c
  .intro c;rw[(b v c).1];exact(b v c).2
 have i:(λv=>0<=rk g.Prio v)=Xn n:=funext λv=>propext (f v)
 obtain⟨u,l,m,x,o,w,p,q⟩:=om h (X:=(Am n).map zK) (λv a=>(ir v).1 a) (by
  intro e
  have:=congrArg List.length e
  simp at this
  omega)
 have hw:=(ir w).1 p
 unfold fq
 rw[gQ h,Af,appL (by rw[zS];omega) rfl,Af,kc (by rw[h.lo];omega),h.lo,Af,l,Af,List.nil_append]
 refine⟨_,rfl,by simp,d,λv=>?_,λv=> .inl (qq v),λv r t=>?_,?_,.inr ⟨m,?_,⟨w,?_,?_⟩,?_⟩⟩
 .dsimp only
  by_cases a:Xn n v
  .rw[(b v a).1];exact .inr ⟨(b v a).2,hp v a.1 a.2⟩
  .exact .inl (mS (by rw[d];exact a))
 .dsimp only
  rw[qq]
  exact⟨λ_=>rfl,λ_=>(f v).2 ⟨r,t⟩⟩
 .dsimp only
  rw[i]
  exact Par.Part.first λc v=>by rw[qq];have:=nV c;omega
 .dsimp only
  have:=hp w hw.1 hw.2
  omega
 .exact(f w).2 hw
 .dsimp only;rw[(b w hw).1,q]
 .dsimp only
  rw[i]
  exact Par.Stg.first hN (λv a=>(b v a).1) λv a=>o v ((ir v).2 a)
include hn
theorem ul:∃a s,iK g=some (a++[s])/\a.length<=300000/\StOk g n s/\s.At= -1:=by
 obtain⟨i,j,l⟩:=uC h h0 hp hN
 obtain⟨q,r,t⟩:=bI (f:=ey g) (λc (b:List Stage)=>∃a s,b=a++[s]/\a.length=c/\StOk g n s/\c<=msr n s) (λb=>∃a s,b=a++[s]/\a.length<=300000/\StOk g n s/\s.At= -1) (λ_=>False) 229376 (λc b ⟨a,s,u,v,d,A⟩=>by
  subst u
  have y:=uO hn s
  have m:zr .i64 (((a++[s]).length:Int)-1)=(a.length:Int):=by
   rw[yq,Az,wr' (by push_cast;omega) (by push_cast;omega)];push_cast;omega
  unfold ey
  rw[m,aS,yU (yE _),Nat.sub_self,yV,Af]
  by_cases ha:s.At= -1
  .rw[show(s.At==(-1))=true from by simp[ha],cond_true]
   exact⟨_,rfl,a,s,rfl,by omega,d,ha⟩
  .rw[show(s.At==(-1))=false from by simp[ha],cond_false]
   obtain⟨e,k,o,p,z⟩:=sK h hn hp d ha
   rw[o,Af,app1 (by rw[yq,Az];omega) rfl,Af]
   have:=uO hn e
   exact⟨_,rfl,by omega,a++[s],e,rfl,by rw[yq,Az,v],p,by omega⟩) (2 ^ 64) 0 [i] (by omega) ⟨[],i,rfl,rfl,l,AH _⟩ (by decide)
 unfold iK
 rw[j,Af,r,Af]
 match q,t with
 |.inl b,⟨a,s,w,x⟩=>exact⟨a,s,by rw[w];rfl,x⟩
end
theorem oX {g:Parity}(hp:bC g=true) (h0:0<g.Prio.length) (hn:g.Prio.length<=6) (j:∀v:Int,0<=v->v<g.Prio.length->(gI g).pri v<=4){W:Int->Prop}(f:Par.Sol (gI g) (Xn g.Prio.length) false W):fi g=some (wonL g.Prio.length W):=by
 have h:=GOk.of hp
 generalize hnn:g.Prio.length=n at h h0 hn f j
 obtain⟨l,s,t,u,b,w⟩:=ul h h0 hn j (eN h (gp hp))
 have e:∀v,¬0<=rk s.Region v:=by
  rcases b.stg with ⟨_,a⟩|⟨a,_⟩
  .exact a
  .omega
 have i:=b.lw
 have q:Par.Sol (gI g) (Xn n) false (λv=>rk s.Won v=0):=b.part.sol e (λv=>by
  constructor
  .intro c
   have d:=b.op v c.1 c.2
   rcases b.wr v with a|a|a
   .exact absurd (d.2 a) (e v)
   .exact .inl a
   .exact .inr a
  .intro a
   refine zJ λc=>?_
   have:=mS (R:=s.Won) (v:=v) (by rw[i];exact c)
   rw[this]at a
   rcases a with a|a <;> cases a) (λv ⟨r,m⟩=>by rw[r]at m;cases m)
 have k:=f.uniq q
 unfold fi
 have p:zr .i64 (((l++[s]).length:Int)-1)=(l.length:Int):=by
  rw[yq,Az,wr' (by push_cast;omega) (by push_cast;omega)];push_cast;omega
 rw[fv hp (by omega),Af,zG,cond_false,t,Af,p,aS,yU (yE _),Nat.sub_self,yV,Af]
 congr 1
 refine lb i λv c=>?_
 have d:=gn (R:=s.Won) (v:=(v:Int)) (by omega) (by omega)
 rw[aS]at d
 rw[d]
 congr 1
 have o:=b.op (v:Int) (by omega) (by omega)
 by_cases hw:W (v:Int)
 .rw[(k v).1 hw];simp[hw,b2i]
 .rcases b.wr (v:Int) with a|a|a
  .exact absurd (o.2 a) (e _)
  .exact absurd ((k v).2 a) hw
  .rw[a];simp[hw,b2i]
end
theorem lT {a:VI}{j:Nat}(h:j<a.length):a.toArray[j]! =a[j]:=by
 rw[getElem!_pos _ j (by simpa using h)]
 simp
theorem lQ {b:VI}(h:b.Pairwise (·<=·)):∀c:Nat,c<=b.length->Asc (Lib.compactUpTo b.toArray c)/\∀i,i∈Lib.compactUpTo b.toArray c↔∃a:Nat,a<c/\b[a]? =some i
 |0,_=>⟨by simp[Lib.compactUpTo,Asc],λi=>by simp[Lib.compactUpTo]⟩
 |c+1,hm=>by
  obtain⟨a1,k⟩:=lQ h c (by omega)
  have q:∀(g a:Nat) (o:g<b.length) (p:a<b.length),g<=a->b[g]<=b[a]:=λg a o p w=>by
   rcases Nat.lt_or_ge g a with n|n
   .exact(List.pairwise_iff_getElem.1 h) g a o p n
   .have:g=a:=by omega
    subst this
    exact Av _
  rw[Lib.compactUpTo_succ,lT (show c<b.length by omega)]
  have l:b[c]? =some b[c]:=nx (by omega)
  cases f:Lib.keeps b.toArray c with
  |true=>
   rw[if_pos rfl]
   refine⟨List.pairwise_append.2 ⟨a1,List.pairwise_singleton ..,λv r A u=>?_⟩,λi=>?_⟩
   .rw[yw.1 u]
    obtain⟨a,j,d⟩:=(k v).1 r
    rw[nx (show a<b.length by omega)]at d
    have r:=zt d
    have x:b[c]≠b[c-1]'(by omega):=λe=>by
     unfold Lib.keeps at f
     rw[decide_eq_true_eq,lT (show c<b.length by omega),lT (show c-1<b.length by omega)]at f
     rcases f with f|f
     .omega
     .exact f e
    have y:=q a (c-1) (by omega) (by omega) (by omega)
    have z:=q (c-1) c (by omega) (by omega) (by omega)
    omega
   .rw[yu,yw,k]
    constructor
    .rintro(⟨a,j,d⟩|rfl)
     .exact⟨a,by omega,d⟩
     .exact⟨c,by omega,l⟩
    .rintro⟨a,j,d⟩
     by_cases e:a=c
     .subst e
      rw[l]at d
      exact .inr (zt d).symm
     .exact .inl ⟨a,by omega,d⟩
  |false=>
   rw[if_neg (by simp),List.append_nil]
   refine⟨a1,λi=>?_⟩
   rw[k]
   constructor
   .rintro⟨a,j,d⟩
    exact⟨a,by omega,d⟩
   .rintro⟨a,j,d⟩
    by_cases e:a=c
    .subst e
     have m:¬(a=0\/b.toArray[a]!≠b.toArray[a-1]!):=λt=>by
      unfold Lib.keeps at f
      rw[decide_eq_true t]at f
      cases f
     rw[lT (show a<b.length by omega),lT (show a-1<b.length by omega)]at m
     have h0:a≠0:=λe=>m (.inl e)
     have s:b[a]=b[a-1]'(by omega):=zJ λe=>m (.inr e)
     refine⟨a-1,by omega,?_⟩
     rw[nx (show a-1<b.length by omega),← s,← l,d]
    .exact⟨a,by omega,d⟩
theorem qY {c:VI}(h:c.Pairwise (·<=·)):Asc (Lib.compact c)/\∀d,d∈Lib.compact c↔d∈c:=by
 obtain⟨a,b⟩:=lQ h c.length (yE _)
 refine⟨a,λd=>?_⟩
 unfold Lib.compact
 rw[b]
 constructor
 .rintro⟨f,_,h⟩;exact ze h
 .intro g
  obtain⟨f,e⟩:=List.getElem?_of_mem g
  exact⟨f,(yo.1 e).1,e⟩
end Go.Proofs.YtgbippnfaoedmaaGreatDoor
namespace Go.Proofs.YtgbippnfaoedmaaGreatDoor.Par
section
open Classical
structure Wgt (R:Int->Nat) (M:Nat):Prop where
 pos:∀p,0<R p
 dvd:∀p d,p<=d->R p ∣ R d
 top:∀p,R p ∣ M
def ask (R:Int->Nat) (M:Nat) (p:Int) (x:Nat):Nat:=if oddP p then min M ((x / R p+1) * R p) else x / R p * R p
section
variable {R:Int->Nat}{M:Nat}(hw:Wgt R M)
include hw
omit hw in
theorem ask_mono {p:Int}{x y:Nat}(h:x<=y):ask R M p x<=ask R M p y:=by
 have a:x / R p<=y / R p:=Nat.div_le_div_right h
 have b:x / R p * R p<=y / R p * R p:=zl _ a
 have c:(x / R p+1) * R p<=(y / R p+1) * R p:=zl _ (by omega)
 unfold ask
 split <;> omega
omit hw in
theorem ask_le {p:Int}{x:Nat}(h:x<=M):ask R M p x<=M:=by
 have:=Nat.div_mul_le_self x (R p)
 unfold ask
 split <;> omega
theorem ask_top (p:Int):ask R M p M=M:=by
 have a:=Nat.div_mul_cancel (hw.top p)
 unfold ask
 split
 .rw[Nat.add_mul,Nat.one_mul,a];omega
 .exact a
theorem vF {p:Int}{x y:Nat}(h:ask R M p x<=y) (b:y<M):x / R p<=y / R p/\(oddP p=true->x / R p+1<=y / R p):=by
 have hp:=hw.pos p
 unfold ask at h
 split at h
 .have a:(x / R p+1) * R p<=y:=by omega
  have:=(Nat.le_div_iff_mul_le hp).2 a
  exact⟨by omega,λ_=>this⟩
 .rename_i hn
  exact⟨(Nat.le_div_iff_mul_le hp).2 h,λk=>absurd k hn⟩
omit hw in
theorem wW {p:Int}{x y:Nat}(h:x / R p+(if oddP p then 1 else 0)<=y / R p):ask R M p x<=y:=by
 have:=Nat.div_mul_le_self y (R p)
 unfold ask
 split at h
 .rename_i a
  have b:(x / R p+1) * R p<=y / R p * R p:=zl _ h
  rw[if_pos a];omega
 .rename_i a
  have b:x / R p * R p<=y / R p * R p:=zl _ (by omega)
  rw[if_neg a];omega
omit hw in
theorem wj {f:Nat->Nat}(d:∀n,f (n+1)<=f n) (e:∀N,∃n,N<=n/\f (n+1)<f n):False:=by
 have i:∀k n,f (n+k)<=f n:=λk n=>by
  induction k with
  |zero=>exact yE _
  |succ k c=>have:=d (n+k);rw[show n+(k+1)=n+k+1 by omega];omega
 have g:∀a,∃n,f n+a<=f 0:=λa=>by
  induction a with
  |zero=>exact⟨0,by omega⟩
  |succ a c=>
   obtain⟨n,hn⟩:=c
   obtain⟨b,m1,j⟩:=e n
   have:=i (b-n) n
   rw[show n+(b-n)=b by omega]at this
   exact⟨b+1,by omega⟩
 obtain⟨n,hn⟩:=g (f 0+1)
 omega
theorem steady_dom {G:Gm}{X:Int->Prop}{b:Nat}(hp:∀v,X v->0<=G.pri v/\G.pri v<b){t:Int->Nat}(F:∀v,X v->G.own v=false->t v<M->∃g,G.E v g/\X g/\ask R M (G.pri v) (t g)<=t v) (y:∀v,X v->G.own v=true->t v<M->∀g,G.E v g->X g->ask R M (G.pri v) (t g)<=t v):Dom G X false (λv=>X v/\t v<M):=by
 have x:∀{o:Int} {j p:Nat},ask R M o j<=p->p<M->j<M:=λ{o j p} h P=>zJ λhn=>by
  have:=ask_mono (R:=R) (M:=M) (p:=o) (x:=M) (y:=j) (by omega)
  rw[ask_top hw]at this
  omega
 let k:Int->Int:=λv=>if h:∃g,G.E v g/\X g/\ask R M (G.pri v) (t g)<=t v then h.choose else v
 have m:∀v,X v->G.own v=false->t v<M->G.E v (k v)/\X (k v)/\ask R M (G.pri v) (t (k v))<=t v:=λv a d H=>by
  have h:=F v a d H
  have e:k v=h.choose:=dif_pos h
  rw[e];exact h.choose_spec
 refine⟨k,λv a=>a.1,λv a d=>⟨(m v a.1 d a.2).1,(m v a.1 d a.2).2.1,x (m v a.1 d a.2).2.2 a.2⟩,λv g a d E z=>⟨z,x (y v a.1 (by revert d;cases G.own v <;> simp) a.2 g E z) a.2⟩,λc l=>?_⟩
 have I:∀n,ask R M (G.pri (c n)) (t (c (n+1)))<=t (c n):=λn=>by
  obtain⟨⟨a1,q⟩,B,a4⟩:=l n
  cases d:G.own (c n) with
  |false=>rw[a4 d];exact(m _ a1 d q).2.2
  |true=>exact y _ a1 d q _ B (l (n+1)).1.1
 obtain⟨i,r,N,s⟩:=tt (f:=λn=>G.pri (c n)) b 0 λK _=>hp _ (l K).1.1
 refine⟨i,?_,r,N,s⟩
 cases d:oddP i with
 |false=>rfl
 |true=>
  exfalso
  have w:∀n,N<=n->t (c (n+1)) / R i<=t (c n) / R i/\(G.pri (c n)=i->t (c (n+1)) / R i+1<=t (c n) / R i):=λn hn=>by
   obtain⟨C,u⟩:=vF hw (I n) (l n).1.2
   refine⟨?_,λe=>?_⟩
   .obtain⟨O,D⟩:=hw.dvd (G.pri (c n)) i (s n hn)
    rw[D,← Nat.div_div_eq_div_mul,← Nat.div_div_eq_div_mul]
    exact Nat.div_le_div_right C
   .rw[e]at u
    exact u d
  refine wj (f:=λn=>t (c (n+N)) / R i) (λn=>?_) λA=>?_
  .have:=(w (n+N) (by omega)).1
   show t (c (n+1+N)) / R i<=_
   rwa [show n+1+N=n+N+1 by omega]
  .obtain⟨n,Q,L⟩:=r (A+N)
   refine⟨n-N,by omega,?_⟩
   have:=(w n (by omega)).2 L
   show t (c (n-N+1+N)) / R i<t (c (n-N+N)) / R i
   rw[show n-N+1+N=n+1 by omega,show n-N+N=n by omega]
   omega
end
theorem count_lt {c:Type}{p q:c->Bool}:∀{l:List c}{x:c},(∀a,p a=true->q a=true)->x∈l->q x=true->p x=false->l.countP p+1<=l.countP q
 | [],_,_,h,_,_=>by cases h
 |a::l,x,hs,h,h1,h2=>by
  rw[List.countP_cons,List.countP_cons]
  rcases yv.1 h with rfl|h
  .have:=Aw (p:=p) (q:=q) (l:=l) λa _=>hs a
   rw[if_pos h1,if_neg (by rw[h2];simp)]
   omega
  .have:=count_lt hs h h1 h2
   by_cases b:p a=true
   .rw[if_pos b,if_pos (hs a b)];omega
   .rw[if_neg b];omega
def rW (m1 m3:Nat) (p:Int):Nat:=if p<=1 then 1 else if p<=3 then m1+1 else(m1+1) * (m3+1)
theorem rW_ok (m1 m3:Nat):Wgt (rW m1 m3) ((m1+1) * (m3+1)):=by
 refine⟨λa=>?_,λa b h=>?_,λa=>?_⟩
 .unfold rW
  split
  .omega
  .split
   .omega
   .exact Nat.mul_pos (by omega) (by omega)
 .unfold rW
  by_cases c:a<=1
  .rw[if_pos c];exact Nat.one_dvd _
  .rw[if_neg c,if_neg (show ¬b<=1 by omega)]
   by_cases d:a<=3
   .rw[if_pos d]
    split
    .exact Nat.dvd_refl _
    .exact Nat.dvd_mul_right _ _
   .rw[if_neg d,if_neg (show ¬b<=3 by omega)];exact Nat.dvd_refl _
 .unfold rW
  split
  .exact Nat.one_dvd _
  .split
   .exact Nat.dvd_mul_right _ _
   .exact Nat.dvd_refl _
section
variable {G:Gm}{X:Int->Prop}{w:Int->Bool}{k:Int->Int}(h:Ans G X w k){n:Nat}(hX:∀v,X v->0<=v/\v<n) (hp:∀v,X v->0<=G.pri v/\G.pri v<5)
noncomputable def cR (G:Gm) (X:Int->Prop) (w:Int->Bool) (k:Int->Int) (n:Nat) (q v:Int):Nat:=(Am n).countP λa:Nat=>decide (G.pri (a:Int)=q/\X (a:Int)/\Rch (pickG G k) (λb=>Rg X w false b/\G.pri b<=q) v a)
noncomputable def cM (G:Gm) (X:Int->Prop) (n:Nat) (q:Int):Nat:=(Am n).countP λa:Nat=>decide (G.pri (a:Int)=q/\X (a:Int))
noncomputable def muA (G:Gm) (X:Int->Prop) (w:Int->Bool) (k:Int->Int) (n:Nat) (v:Int):Nat:=if Rg X w false v then cR G X w k n 1 v+cR G X w k n 3 v * (cM G X n 1+1) else(cM G X n 1+1) * (cM G X n 3+1)
theorem tk (q v:Int):cR G X w k n q v<=cM G X n q:=Aw λb _ a=>by
 rw[decide_eq_true_eq]at a ⊢
 exact⟨a.1,a.2.1⟩
include h hX
theorem tl {q v u:Int}(j:oddP q=true) (b:Rg X w false v) (g:(pickG G k).E v u) (i:G.pri v<=q):cR G X w k n q u<=cR G X w k n q v/\(G.pri v=q->cR G X w k n q u+1<=cR G X w k n q v):=by
 have hs:∀a:Nat,decide (G.pri (a:Int)=q/\X (a:Int)/\Rch (pickG G k) (λc=>Rg X w false c/\G.pri c<=q) u a)=true->decide (G.pri (a:Int)=q/\X (a:Int)/\Rch (pickG G k) (λc=>Rg X w false c/\G.pri c<=q) v a)=true:=λa d=>by
  rw[decide_eq_true_eq]at d ⊢
  exact⟨d.1,d.2.1,.step ⟨b,i⟩ g d.2.2⟩
 refine⟨Aw λa _=>hs a,λe=>?_⟩
 obtain⟨m,o⟩:=hX v b.1
 have f:((v.toNat:Nat):Int)=v:=Int.toNat_of_nonneg m
 refine count_lt (x:=v.toNat) hs (zX.2 (by omega)) ?_ ?_
 .rw[decide_eq_true_eq,f]
  exact⟨e,b.1,.refl ⟨b,i⟩⟩
 .rw[decide_eq_false_iff_not,f]
  rintro⟨_,_,l⟩
  refine h.noloop v b.1 (by rw[e,j,b.2];decide) ⟨u,g,?_⟩
  rw[b.2,e]
  exact l
include hp
omit h hX hp in
theorem muA_lt {v:Int}(b:Rg X w false v):muA G X w k n v<(cM G X n 1+1) * (cM G X n 3+1):=by
 have c:=tk (G:=G) (X:=X) (w:=w) (k:=k) (n:=n) 1 v
 have a:=tk (G:=G) (X:=X) (w:=w) (k:=k) (n:=n) 3 v
 have d:cR G X w k n 3 v * (cM G X n 1+1)<=cM G X n 3 * (cM G X n 1+1):=zl _ a
 unfold muA
 rw[if_pos b,Nat.mul_comm (cM G X n 1+1),Nat.add_mul (cM G X n 3),Nat.one_mul]
 omega
theorem rD {v u:Int}(i:Rg X w false v) (o:Rg X w false u) (m:(pickG G k).E v u):ask (rW (cM G X n 1) (cM G X n 3)) ((cM G X n 1+1) * (cM G X n 3+1)) (G.pri v) (muA G X w k n u)<=muA G X w k n v:=by
 obtain⟨t,x⟩:=hp v i.1
 have l:=tl h hX (q:=1) (by decide) i m
 have c:=tl h hX (q:=3) (by decide) i m
 have r:=tk (G:=G) (X:=X) (w:=w) (k:=k) (n:=n) 1 v
 have p:=tk (G:=G) (X:=X) (w:=w) (k:=k) (n:=n) 1 u
 have s:=muA_lt (G:=G) (k:=k) (n:=n) o
 have g:muA G X w k n v=cR G X w k n 1 v+cR G X w k n 3 v * (cM G X n 1+1):=if_pos i
 have f:muA G X w k n u=cR G X w k n 1 u+cR G X w k n 3 u * (cM G X n 1+1):=if_pos o
 have d:∀a j:Nat,a<=cM G X n 1->(a+j * (cM G X n 1+1)) / (cM G X n 1+1)=j:=λa j ha=>by
  rw[Nat.add_mul_div_right _ _ (by omega),AD (by omega),Nat.zero_add]
 refine wW ?_
 rcases(show G.pri v=0\/G.pri v=1\/G.pri v=2\/G.pri v=3\/G.pri v=4 by omega) with e|e|e|e|e <;> rw[e]at l c ⊢
 .have a1:=(l (by omega)).1
  have b:=zl (cM G X n 1+1) (c (by omega)).1
  rw[show rW (cM G X n 1) (cM G X n 3) 0=1 from rfl,AF,AF,g,f]
  show _+0<=_
  omega
 .have a1:=(l (by omega)).2 rfl
  have b:=zl (cM G X n 1+1) (c (by omega)).1
  rw[show rW (cM G X n 1) (cM G X n 3) 1=1 from rfl,AF,AF,g,f]
  show _+1<=_
  omega
 .have b:=(c (by omega)).1
  rw[show rW (cM G X n 1) (cM G X n 3) 2=cM G X n 1+1 from rfl,g,f,d _ _ r,d _ _ p]
  exact b
 .have b:=(c (by omega)).2 rfl
  rw[show rW (cM G X n 1) (cM G X n 3) 3=cM G X n 1+1 from rfl,g,f,d _ _ r,d _ _ p]
  exact b
 .rw[show rW (cM G X n 1) (cM G X n 3) 4=(cM G X n 1+1) * (cM G X n 3+1) from rfl,AD s]
  exact AH _
theorem muA_steady (hN:NoDead G X) (v:Int) (c:X v):(G.own v=false->∃a,G.E v a/\X a/\ask (rW (cM G X n 1) (cM G X n 3)) ((cM G X n 1+1) * (cM G X n 3+1)) (G.pri v) (muA G X w k n a)<=muA G X w k n v) /\
 (G.own v=true->∀a,G.E v a->X a->ask (rW (cM G X n 1) (cM G X n 3)) ((cM G X n 1+1) * (cM G X n 3+1)) (G.pri v) (muA G X w k n a)<=muA G X w k n v):=by
 have i:∀a,muA G X w k n a<=(cM G X n 1+1) * (cM G X n 3+1):=λa=>by
  by_cases j:Rg X w false a
  .exact Nat.le_of_lt (muA_lt j)
  .unfold muA;rw[if_neg j];exact yE _
 by_cases b:Rg X w false v
 .refine⟨λd=>?_,λd a g l=>?_⟩
  .obtain⟨a1,e,f,a4⟩:=h.mine v c (by rw[d,b.2])
   exact⟨_,e,f,rD h hX hp b ⟨f,by rw[a4,b.2]⟩ ⟨e,.inr rfl⟩⟩
  .have hn:¬G.own v=w v:=by rw[d,b.2];decide
   exact rD h hX hp b ⟨l,by rw[h.yours v a c hn g l,b.2]⟩ ⟨g,.inl (h.free v c hn)⟩
 .have m:muA G X w k n v=(cM G X n 1+1) * (cM G X n 3+1):=if_neg b
  rw[m]
  refine⟨λ_=>?_,λ_ a _ _=>ask_le (i a)⟩
  obtain⟨a,o,p⟩:=hN v c
  exact⟨a,o,p,ask_le (i a)⟩
end
end
end Go.Proofs.YtgbippnfaoedmaaGreatDoor.Par
namespace Go.Proofs.YtgbippnfaoedmaaGreatDoor
open Go Go.Wk Go.Proofs
section
open Classical
noncomputable def cQ (g:Parity) (n:Nat) (q:Int):Nat:=Par.cM (gI g) (Xn n) n q
noncomputable def odL (g:Parity) (n:Nat):VI:=(if 0<cQ g n 3 then[3] else[])++(if 0<cQ g n 1 then[1] else[])
section
variable {g:Parity}{n:Nat}
theorem nX {q:Int}:0<cQ g n q↔∃v,Xn n v/\(gI g).pri v=q:=by
 unfold cQ Par.cM
 rw[List.countP_pos_iff]
 constructor
 .rintro⟨b,f,h⟩
  obtain⟨c,d⟩:=of_decide_eq_true h
  exact⟨b,d,c⟩
 .rintro⟨v,a,e⟩
  obtain⟨b,rfl⟩:=bA a.1
  exact⟨b,zX.2 (by have:=a.2;omega),decide_eq_true ⟨e,a⟩⟩
theorem tj {q:Int}:cQ g n q<=n:=by
 unfold cQ Par.cM
 exact Ae List.countP_le_length (by simp)
variable (h:GOk g n) (h0:0<n) (hn:n<=6) (hp:∀v:Int,0<=v->v<n->(gI g).pri v<=4)
include h h0 hp
theorem qi:fE g=some (odL g n):=by
 have hn:=h.n256
 have S:=h.lp
 obtain⟨m,a1,B⟩:=ba (f:=fH g ((Am n).map zK)) (λj (s:VI)=>s=((Am j).map λv:Nat=>(gI g).pri (v:Int))) n (s:=[]) rfl (λj s y hs=>by
  subst hs
  have o:((Am n).map zK)[j]? =some (j:Int):=by
   rw[yX,List.getElem?_range y];rfl
  unfold fH
  rw[aS,o,Af,(dD h (v:=(j:Int)) (by omega) (by omega)).1,Af,app1 (by simp;omega) rfl,Af]
  exact⟨_,rfl,by rw[List.range_succ,List.map_append];rfl⟩)
 have M:m.length=n:=by rw[B];simp
 have N:∀c,c∈m↔∃v,Xn n v/\(gI g).pri v=c:=λc=>by
  rw[B,AA]
  constructor
  .rintro⟨d,z,e⟩
   rw[zX]at z
   exact⟨d,⟨by omega,by omega⟩,e⟩
  .rintro⟨v,i,e⟩
   obtain⟨d,rfl⟩:=bA i.1
   exact⟨d,zX.2 (by have:=i.2;omega),e⟩
 have T:(m.mergeSort λd l=>decide (d<=l)).length=n:=by rw[List.length_mergeSort,M]
 have O:(m.mergeSort λd l=>decide (d<=l)).Pairwise (·<=·):=by
  have:=List.pairwise_mergeSort (le:=λd l:Int=>decide (d<=l)) (λa b P w x=>by simp at *;omega) (λa b=>by simp;omega) m
  exact this.imp λh=>of_decide_eq_true h
 obtain⟨q,D⟩:=qY O
 have H:jx g ((Am n).map zK)=some (Lib.compact (m.mergeSort λd l=>decide (d<=l))):=by
  unfold jx bH cj
  rw[show((Am n).map zK).length=n from by simp,a1,Af,aU,if_pos ⟨by omega,by omega⟩,Af,if_pos ⟨by omega,by omega⟩,Af]
 generalize hC:Lib.compact (m.mergeSort λd l=>decide (d<=l))=C at H q D
 have E:∀c,c∈C↔∃v,Xn n v/\(gI g).pri v=c:=λc=>by rw[D,List.mem_mergeSort,N]
 have Q:C.length<=5:=cF 5 C (cH q) λd z=>by
  obtain⟨v,i,e⟩:=(E d).1 z
  have w:=(dD h i.1 i.2).2
  have x:=hp v i.1 i.2
  omega
 obtain⟨F,K,t⟩:=ba (f:=gR C) (λj (s:VI)=>s=(C.take j).filter λc=>zx c 2==1) C.length (s:=[]) (by simp) (λj s y hs=>by
  subst hs
  have o:C[j]? =some C[j]:=nx y
  generalize C[j]=u at o
  have R:((C.take j).filter λc=>zx c 2==1).length<=5:=Ae (List.length_filter_le _ _) (by rw[List.length_take];omega)
  unfold gR
  rw[aS,o,Af,bi o,List.filter_append]
  cases G:(zx u 2==1) with
  |true=>
   rw[cond_true,app1 (by omega) rfl,Af,Af]
   exact⟨_,rfl,by rw[List.filter_cons_of_pos (p:=λc:Int=>zx c 2==1) G];rfl⟩
  |false=>
   rw[cond_false,Af]
   exact⟨_,rfl,by rw[List.filter_cons_of_neg (p:=λc:Int=>zx c 2==1) (by rw[G];decide)];simp⟩)
 rw[Ac]at t
 have L:F=(if 0<cQ g n 1 then[1] else[])++(if 0<cQ g n 3 then[3] else[]):=by
  refine mF (by rw[t];exact q.filter _) ?_ λc=>?_
  .unfold Asc
   split <;> split <;> simp
  .rw[t,zV,E]
   constructor
   .rintro⟨⟨v,i,e⟩,r⟩
    have w:=(dD h i.1 i.2).2
    have x:=hp v i.1 i.2
    rw[e]at w x
    have I:c=0\/c=1\/c=2\/c=3\/c=4:=by omega
    rcases I with rfl|rfl|rfl|rfl|rfl
    .exact absurd r (by decide)
    .rw[if_pos (nX.2 ⟨v,i,e⟩)];simp
    .exact absurd r (by decide)
    .rw[if_pos (nX.2 ⟨v,i,e⟩)];simp
    .exact absurd r (by decide)
   .intro k
    rcases yu.1 k with k|k
    .split at k
     .rename_i A
      rw[yw]at k
      subst k
      exact⟨nX.1 A,by decide⟩
     .cases k
    .split at k
     .rename_i A
      rw[yw]at k
      subst k
      exact⟨nX.1 A,by decide⟩
     .cases k
 unfold fE
 rw[kc (by rw[h.lo];omega),h.lo,Af,H,Af,K,Af,aU,L]
 unfold odL
 split <;> split <;> decide +kernel
theorem wg:gO g=some ((odL g n).map λq=>(cQ g n q:Int)):=by
 have hn:=h.n256
 have j:∀q:Int,(((Am n).map zK).filter λv=>decide ((gI g).pri v=q)).length=cQ g n q:=λq=>by
  rw[← List.countP_eq_length_filter,List.countP_map]
  unfold cQ Par.cM
  refine List.countP_congr λm l=>?_
  rw[zX]at l
  simp only[Function.comp,decide_eq_true_iff]
  exact⟨λe=>⟨e,by show(0:Int)<=_;omega,by show(m:Int)<n;omega⟩,λe=>e.1⟩
 have o:(odL g n).length<=2:=by unfold odL;split <;> split <;> simp
 obtain⟨s,c,d⟩:=ba (f:=gP g (odL g n)) (λa (s:VI)=>s=((odL g n).take a).map λq=>(cQ g n q:Int)) (odL g n).length (s:=[]) (by simp) (λa s i hs=>by
  subst hs
  have b:(odL g n)[a]? =some (odL g n)[a]:=nx i
  generalize(odL g n)[a]=u at b
  unfold gP
  rw[aS,b,Af,kc (by rw[h.lo];omega),h.lo,Af,lg h (λv k=>(ir v).1 k) (by simp;omega),Af,app1 (by simp;omega) rfl,Af,bi b,j]
  exact⟨_,rfl,by simp⟩)
 unfold gO
 rw[qi h h0 hp,Af,c,Af,aU,d,Ac]
end
end
section
open Classical
def enc (b:VI) (K M x:Nat):VI:=if x<M then 0::b.map (λa=>if a=3 then((x / K:Nat):Int) else((x % K:Nat):Int)) else[1]
theorem pD (a:VI) (K M x:Nat):gF (enc a K M x)=some (decide (¬x<M)):=by
 unfold gF enc
 by_cases h:x<M
 .rw[if_pos h,decide_eq_false (by simpa using h)];rfl
 .rw[if_neg h,decide_eq_true h];rfl
theorem pV (a:VI) (K M:Nat):enc a K M M=[1]:=if_neg (Nat.lt_irrefl M)
theorem xj {c:VI}{m1 m3 a b:Nat}(ha:a<=m3) (f:b<=m1):enc c (m1+1) ((m1+1) * (m3+1)) ((m1+1) * a+b)=0::c.map (λe=>if e=3 then(a:Int) else(b:Int)):=by
 have d:(m1+1) * a+b<(m1+1) * (m3+1):=Nat.lt_of_lt_of_le (m:=(m1+1) * (a+1)) (by rw[Nat.mul_add,pb];omega) (AG _ (by omega))
 unfold enc
 rw[if_pos d,Nat.mul_add_div (by omega),Nat.mul_add_mod,AD (by omega),Nat.mod_eq_of_lt (by omega),AB]
section
variable {m1 m3 a b:Nat}
theorem nU {ms out out0 out1:VI}{i i' x y:Int}{k:Nat}(hi:1<=i) (c:idx out i=some x) (d:idx ms (zr .i64 (i-1))=some y) (a:setI out i (zr .i64 (x+1))=some out1) (h0:setI out i 0=some out0) (b:zr .i64 (i-1)=i'):
 bn (bK ms) (k+1) (i,out)=if x<y then some (.inl out1) else bn (bK ms) k (i',out0):=by
 rw[oP (by omega)]
 unfold bK
 dsimp only
 rw[decide_eq_true hi,cond_true,c,Af,d,Af]
 by_cases h:x<y
 .rw[decide_eq_true h,cond_true,Af,Af,a,if_pos h];rfl
 .rw[decide_eq_false h,cond_false,Af,h0,if_neg h,b];rfl
theorem tc {ms out:VI}{k:Nat}:bn (bK ms) (k+1) (0,out)=some (.inr (0,out)):=by
 rw[oP (by omega)];rfl
theorem qQ {x:Nat}(h:x<=1000):zr .i64 ((x:Int)+1)=((x+1:Nat):Int):=by rw[wr' (by omega) (by omega)];rfl
theorem up2 {k:Nat}(d:b<=1000) (ha:a<=1000):bn (bK [(m3:Int),(m1:Int)]) (k+3) (2,[0,(a:Int),(b:Int)])=some (if b<m1 then .inl [0,(a:Int),((b+1:Nat):Int)] else if a<m3 then .inl [0,((a+1:Nat):Int),0] else .inr (0,[0,0,0])):=by
 rw[nU (k:=k+2) (out1:=[0,(a:Int),((b+1:Nat):Int)]) (out0:=[0,(a:Int),0]) (by decide) rfl rfl (by rw[qQ d];rfl) rfl (i':=1) rfl]
 by_cases h:b<m1
 .rw[if_pos (by omega),if_pos h]
 .rw[if_neg (by omega),if_neg h,nU (k:=k+1) (out1:=[0,((a+1:Nat):Int),0]) (out0:=[0,0,0]) (by decide) rfl rfl (by rw[qQ ha];rfl) rfl (i':=0) rfl]
  by_cases c:a<m3
  .rw[if_pos (by omega),if_pos c]
  .rw[if_neg (by omega),if_neg c,tc]
theorem up1 {k:Nat}(ha:a<=1000):bn (bK [(m3:Int),(m1:Int)]) (k+3) (1,[0,(a:Int),0])=some (if a<m3 then .inl [0,((a+1:Nat):Int),0] else .inr (0,[0,0,0])):=by
 rw[nU (k:=k+2) (out1:=[0,((a+1:Nat):Int),0]) (out0:=[0,0,0]) (by decide) rfl rfl (by rw[qQ ha];rfl) rfl (i':=0) rfl]
 by_cases b:a<m3
 .rw[if_pos (by omega),if_pos b]
 .rw[if_neg (by omega),if_neg b,tc]
theorem up0 {k:Nat}(ha:a<=1000):bn (bK [(m3:Int)]) (k+3) (1,[0,(a:Int)])=some (if a<m3 then .inl [0,((a+1:Nat):Int)] else .inr (0,[0,0])):=by
 rw[nU (k:=k+2) (out1:=[0,((a+1:Nat):Int)]) (out0:=[0,0]) (by decide) rfl rfl (by rw[qQ ha];rfl) rfl (i':=0) rfl]
 by_cases b:a<m3
 .rw[if_pos (by omega),if_pos b]
 .rw[if_neg (by omega),if_neg b,tc]
end
end
section
open Classical
noncomputable def mK (g:Parity) (n:Nat):Nat:=cQ g n 1+1
noncomputable def mM (g:Parity) (n:Nat):Nat:=(cQ g n 1+1) * (cQ g n 3+1)
noncomputable def mE (g:Parity) (n x:Nat):VI:=enc (odL g n) (mK g n) (mM g n) x
noncomputable def mA (g:Parity) (n:Nat) (v:Int) (x:Nat):Nat:=Par.ask (Par.rW (cQ g n 1) (cQ g n 3)) (mM g n) ((gI g).pri v) x
theorem bV {g:Parity}{v p L:Int}{ms z c b out:VI}(d:gF ms=some false) (f:idx g.Prio v=some p){k:Nat}(m:ms.length=k) (i:mkS 8 (k:Int) (0:Int)=some z) (j:fE g=some c) (l:gO g=some b) (n:cntM (ik ms p c) c.length 0 (0,z)=some (.inr (L,out))):
 (zx p 2=0->dm g v ms=some out)/\(¬zx p 2=0->∀a,bn (bK b) (2 ^ 64) (L,out)=some a->dm g v ms=some (match a with
  |.inl r=>r
  |.inr _=>[1])):=by
 unfold dm
 rw[d,Af,cond_false,f,Af,m,i,Af,j,Af,n,Af,aU]
 refine⟨λe=>?_,λe a o=>?_⟩
 .rw[show(zx p 2==0)=true by simp[e],cond_true]
 .rw[show(zx p 2==0)=false by simp[e],cond_false,l,Af]
  show zm (bn (bK b) (2 ^ 64) (L,out)) _=_
  rw[o,Af]
  cases a <;> rfl
theorem xV:∃a,(2:Nat) ^ 64=a+3:=⟨2 ^ 64-3,by omega⟩
def m3b (d:VI) (a b:Nat):VI:=0::d.map (λc=>if c=3 then(a:Int) else(b:Int))
theorem tS {g:Parity}{v p:Int}{m1 m3 a b:Nat}{i:VI}(l:i=(if 0<m3 then[3] else[])++(if 0<m1 then[1] else[])) (d:fE g=some i) (c:gO g=some (i.map λx=>if x=3 then(m3:Int) else(m1:Int))) (e:idx g.Prio v=some p) (ha:a<=m3) (D:b<=m1) (B:m1<=6) (C:m3<=6) (hp:p=0\/p=1\/p=2\/p=3\/p=4) (u:p=1->0<m1) (w:p=3->0<m3):
 dm g v (m3b i a b)=some (if p=0 then m3b i a b else if p=1 then(if b<m1 then m3b i a (b+1) else if a<m3 then m3b i (a+1) 0 else[1]) else if p=2 then m3b i a 0 else if p=3 then(if a<m3 then m3b i (a+1) 0 else[1]) else m3b i 0 0):=by
 obtain⟨r,s⟩:=xV
 have q:mkS 8 ((3:Nat):Int) (0:Int)=some [0,0,0]:=bL (by omega) rfl
 have m:mkS 8 ((2:Nat):Int) (0:Int)=some [0,0]:=bL (by omega) rfl
 have t:mkS 8 ((1:Nat):Int) (0:Int)=some [0]:=bL (by omega) rfl
 by_cases n:0<m3 <;> by_cases o:0<m1
 .rw[if_pos n,if_pos o]at l
  subst l
  rcases hp with rfl|rfl|rfl|rfl|rfl
  .exact(bV (out:=[0,(a:Int),(b:Int)]) (L:=2) (z:=[0,0,0]) (ms:=m3b ([3]++[1]) a b) rfl e (k:=3) rfl q d c rfl).1 rfl
  .have hw:=up2 (m1:=m1) (m3:=m3) (a:=a) (b:=b) (k:=r) (by omega) (by omega)
   rw[← s]at hw
   have:=(bV (out:=[0,(a:Int),(b:Int)]) (L:=2) (z:=[0,0,0]) (ms:=m3b ([3]++[1]) a b) rfl e (k:=3) rfl q d c rfl).2 (by decide) _ hw
   rw[this]
   rw[if_neg (show ¬(1:Int)=0 by decide),if_pos (show(1:Int)=1 from rfl)]
   by_cases j:b<m1
   .rw[if_pos j,if_pos j];rfl
   .rw[if_neg j,if_neg j]
    by_cases f:a<m3
    .rw[if_pos f,if_pos f];rfl
    .rw[if_neg f,if_neg f]
  .exact(bV (out:=[0,(a:Int),0]) (L:=1) (z:=[0,0,0]) (ms:=m3b ([3]++[1]) a b) rfl e (k:=3) rfl q d c rfl).1 rfl
  .have hw:=up1 (m1:=m1) (m3:=m3) (a:=a) (k:=r) (by omega)
   rw[← s]at hw
   have:=(bV (out:=[0,(a:Int),0]) (L:=1) (z:=[0,0,0]) (ms:=m3b ([3]++[1]) a b) rfl e (k:=3) rfl q d c rfl).2 (by decide) _ hw
   rw[this]
   rw[if_neg (show ¬(3:Int)=0 by decide),if_neg (show ¬(3:Int)=1 by decide),if_neg (show ¬(3:Int)=2 by decide),if_pos (show(3:Int)=3 from rfl)]
   by_cases f:a<m3
   .rw[if_pos f,if_pos f];rfl
   .rw[if_neg f,if_neg f]
  .exact(bV (out:=[0,0,0]) (L:=0) (z:=[0,0,0]) (ms:=m3b ([3]++[1]) a b) rfl e (k:=3) rfl q d c rfl).1 rfl
 .rw[if_pos n,if_neg o]at l
  subst l
  have A:b=0:=by omega
  subst A
  rcases hp with rfl|rfl|rfl|rfl|rfl
  .exact(bV (out:=[0,(a:Int)]) (L:=1) (z:=[0,0]) (ms:=m3b ([3]++[]) a 0) rfl e (k:=2) rfl m d c rfl).1 rfl
  .exact absurd (u rfl) o
  .exact(bV (out:=[0,(a:Int)]) (L:=1) (z:=[0,0]) (ms:=m3b ([3]++[]) a 0) rfl e (k:=2) rfl m d c rfl).1 rfl
  .have hw:=up0 (m3:=m3) (a:=a) (k:=r) (by omega)
   rw[← s]at hw
   have:=(bV (out:=[0,(a:Int)]) (L:=1) (z:=[0,0]) (ms:=m3b ([3]++[]) a 0) rfl e (k:=2) rfl m d c rfl).2 (by decide) _ hw
   rw[this]
   rw[if_neg (show ¬(3:Int)=0 by decide),if_neg (show ¬(3:Int)=1 by decide),if_neg (show ¬(3:Int)=2 by decide),if_pos (show(3:Int)=3 from rfl)]
   by_cases f:a<m3
   .rw[if_pos f,if_pos f];rfl
   .rw[if_neg f,if_neg f]
  .exact(bV (out:=[0,0]) (L:=0) (z:=[0,0]) (ms:=m3b ([3]++[]) a 0) rfl e (k:=2) rfl m d c rfl).1 rfl
 .rw[if_neg n,if_pos o]at l
  subst l
  have y:a=0:=by omega
  subst y
  rcases hp with rfl|rfl|rfl|rfl|rfl
  .exact(bV (out:=[0,(b:Int)]) (L:=1) (z:=[0,0]) (ms:=m3b ([]++[1]) 0 b) rfl e (k:=2) rfl m d c rfl).1 rfl
  .have hw:=up0 (m3:=m1) (a:=b) (k:=r) (by omega)
   rw[← s]at hw
   have:=(bV (out:=[0,(b:Int)]) (L:=1) (z:=[0,0]) (ms:=m3b ([]++[1]) 0 b) rfl e (k:=2) rfl m d c rfl).2 (by decide) _ hw
   rw[this]
   rw[if_neg (show ¬(1:Int)=0 by decide),if_pos (show(1:Int)=1 from rfl)]
   by_cases j:b<m1
   .rw[if_pos j,if_pos j];rfl
   .rw[if_neg j,if_neg j,if_neg n]
  .exact(bV (out:=[0,0]) (L:=0) (z:=[0,0]) (ms:=m3b ([]++[1]) 0 b) rfl e (k:=2) rfl m d c rfl).1 rfl
  .exact absurd (w rfl) n
  .exact(bV (out:=[0,0]) (L:=0) (z:=[0,0]) (ms:=m3b ([]++[1]) 0 b) rfl e (k:=2) rfl m d c rfl).1 rfl
 .rw[if_neg n,if_neg o]at l
  subst l
  rcases hp with rfl|rfl|rfl|rfl|rfl
  .exact(bV (out:=[0]) (L:=0) (z:=[0]) (ms:=m3b ([]++[]) a b) rfl e (k:=1) rfl t d c rfl).1 rfl
  .exact absurd (u rfl) o
  .exact(bV (out:=[0]) (L:=0) (z:=[0]) (ms:=m3b ([]++[]) a b) rfl e (k:=1) rfl t d c rfl).1 rfl
  .exact absurd (w rfl) n
  .exact(bV (out:=[0]) (L:=0) (z:=[0]) (ms:=m3b ([]++[]) a b) rfl e (k:=1) rfl t d c rfl).1 rfl
section
variable {g:Parity}{n:Nat}(h:GOk g n) (h0:0<n) (hn:n<=6) (hp:∀v:Int,0<=v->v<n->(gI g).pri v<=4)
include h h0 hn hp
theorem ut {v:Int}(j:Xn n v){x:Nat}(L:x<=mM g n):dm g v (mE g n x)=some (mE g n (mA g n v x)):=by
 have C:=qi h h0 hp
 have A:=wg h h0 hp
 have E:=tj (g:=g) (n:=n) (q:=1)
 have F:=tj (g:=g) (n:=n) (q:=3)
 obtain⟨q,I⟩:=dD h j.1 j.2
 have K:=hp v j.1 j.2
 have z:∀c,(gI g).pri v=c->0<cQ g n c:=λc e=>nX.2 ⟨v,j,e⟩
 have H:∀c,(λc=>((cQ g n c:Nat):Int)) c=((cQ g n c:Nat):Int):=λc=>rfl
 have s:=pD (odL g n) (mK g n) (mM g n) x
 have w:odL g n=(if 0<cQ g n 3 then[3] else[])++(if 0<cQ g n 1 then[1] else[]):=rfl
 have G:((cQ g n 1:Nat):Int)=((cQ g n 1:Nat):Int):=rfl
 unfold mA mE mM mK at *
 by_cases p:x<(cQ g n 1+1) * (cQ g n 3+1)
 .rw[decide_eq_false (not_not_intro p)]at s
  obtain⟨a,b,ha,o,D⟩:∃a b,a<=cQ g n 3/\b<=cQ g n 1/\x=(cQ g n 1+1) * a+b:=by
   refine⟨x / (cQ g n 1+1),x % (cQ g n 1+1),?_,?_,(AC x (cQ g n 1+1)).symm⟩
   .have:=AE p;omega
   .have:=Nat.mod_lt x (show 0<cQ g n 1+1 by omega);omega
  subst D
  have u:((cQ g n 1+1) * a+b) / (cQ g n 1+1)=a:=by rw[Nat.mul_add_div (by omega),AD (show b<cQ g n 1+1 by omega),AB]
  -- the values asked
  have A0:Par.ask (Par.rW (cQ g n 1) (cQ g n 3)) ((cQ g n 1+1) * (cQ g n 3+1)) 0 ((cQ g n 1+1) * a+b)=(cQ g n 1+1) * a+b:=by
   show(if As 0=true then _ else _ / 1 * 1)=_
   rw[if_neg (by decide),AF,pb]
  have A1:Par.ask (Par.rW (cQ g n 1) (cQ g n 3)) ((cQ g n 1+1) * (cQ g n 3+1)) 1 ((cQ g n 1+1) * a+b)=(cQ g n 1+1) * a+b+1:=by
   show(if As 1=true then min _ ((_ / 1+1) * 1) else _)=_
   rw[if_pos (by decide),AF,pb]
   omega
  have A2:Par.ask (Par.rW (cQ g n 1) (cQ g n 3)) ((cQ g n 1+1) * (cQ g n 3+1)) 2 ((cQ g n 1+1) * a+b)=(cQ g n 1+1) * a:=by
   show(if As 2=true then _ else _ / (cQ g n 1+1) * (cQ g n 1+1))=_
   rw[if_neg (by decide),u,Nat.mul_comm]
  have A3:Par.ask (Par.rW (cQ g n 1) (cQ g n 3)) ((cQ g n 1+1) * (cQ g n 3+1)) 3 ((cQ g n 1+1) * a+b)=(cQ g n 1+1) * (a+1):=by
   show(if As 3=true then min _ ((_ / (cQ g n 1+1)+1) * (cQ g n 1+1)) else _)=_
   rw[if_pos (by decide),u,Nat.mul_comm (a+1)]
   exact Nat.min_eq_right (AG _ (by omega))
  have A4:Par.ask (Par.rW (cQ g n 1) (cQ g n 3)) ((cQ g n 1+1) * (cQ g n 3+1)) 4 ((cQ g n 1+1) * a+b)=0:=by
   show(if As 4=true then _ else _ / ((cQ g n 1+1) * (cQ g n 3+1)) * _)=_
   rw[if_neg (by decide),AD p,Nat.zero_mul]
  -- as measures
  have i:∀l m:Nat,l<=cQ g n 3->m<=cQ g n 1->enc (odL g n) (cQ g n 1+1) ((cQ g n 1+1) * (cQ g n 3+1)) ((cQ g n 1+1) * l+m)=0::(odL g n).map (λf=>if f=3 then(l:Int) else(m:Int)):=λl m ha o=>xj ha o
  have t:=i 0 0 (by omega) (by omega)
  rw[Nat.mul_zero,AB 0]at t
  have Ea:=i a 0 ha (by omega)
  rw[AB ((cQ g n 1+1) * a)]at Ea
  have Ei:b=cQ g n 1->enc (odL g n) (cQ g n 1+1) ((cQ g n 1+1) * (cQ g n 3+1)) ((cQ g n 1+1) * a+b+1)=enc (odL g n) (cQ g n 1+1) ((cQ g n 1+1) * (cQ g n 3+1)) ((cQ g n 1+1) * (a+1)):=λe=>by
   have:(cQ g n 1+1) * a+b+1=(cQ g n 1+1) * (a+1):=by rw[Nat.mul_add,pb];omega
   rw[this]
  have Et:a=cQ g n 3->enc (odL g n) (cQ g n 1+1) ((cQ g n 1+1) * (cQ g n 3+1)) ((cQ g n 1+1) * (a+1))=[1]:=λe=>by
   have:=pV (odL g n) (cQ g n 1+1) ((cQ g n 1+1) * (cQ g n 3+1))
   rwa [← e]at this ⊢
  have Eu:a<cQ g n 3->enc (odL g n) (cQ g n 1+1) ((cQ g n 1+1) * (cQ g n 3+1)) ((cQ g n 1+1) * (a+1))=0::(odL g n).map (λf=>if f=3 then((a+1:Nat):Int) else((0:Nat):Int)):=λe=>by
   have:=i (a+1) 0 (by omega) (by omega)
   rwa [AB ((cQ g n 1+1) * (a+1))]at this
  have Eb:b<cQ g n 1->enc (odL g n) (cQ g n 1+1) ((cQ g n 1+1) * (cQ g n 3+1)) ((cQ g n 1+1) * a+b+1)=0::(odL g n).map (λf=>if f=3 then(a:Int) else((b+1:Nat):Int)):=λe=>i a (b+1) ha (by omega)
  have Eab:=i a b ha o
  have y:(gI g).pri v=0\/(gI g).pri v=1\/(gI g).pri v=2\/(gI g).pri v=3\/(gI g).pri v=4:=by omega
  have B:gO g=some ((odL g n).map λc=>if c=3 then((cQ g n 3:Nat):Int) else((cQ g n 1:Nat):Int)):=by
   rw[A]
   congr 1
   refine List.map_congr_left λc q=>?_
   have:c=3\/c=1:=by
    rw[w]at q
    rcases yu.1 q with k|k
    .split at k
     .exact .inl (yw.1 k)
     .cases k
    .split at k
     .exact .inr (yw.1 k)
     .cases k
   rcases this with rfl|rfl
   .rfl
   .rw[if_neg (by decide)]
  rw[Eab,show(0::(odL g n).map (λf=>if f=3 then(a:Int) else(b:Int)))=m3b (odL g n) a b from rfl,tS w C B q ha o (by omega) (by omega) y (z 1) (z 3)]
  congr 1
  rcases y with e|e|e|e|e <;> rw[e]
  .rw[A0,Eab,if_pos rfl];rfl
  .rw[A1,if_neg (by decide),if_pos rfl]
   by_cases r:b<cQ g n 1
   .rw[if_pos r,Eb r];rfl
   .rw[if_neg r,Ei (by omega)]
    by_cases d:a<cQ g n 3
    .rw[if_pos d,Eu d];rfl
    .rw[if_neg d,Et (by omega)]
  .rw[A2,Ea,if_neg (by decide),if_neg (by decide),if_pos rfl];rfl
  .rw[A3,if_neg (by decide),if_neg (by decide),if_neg (by decide),if_pos rfl]
   by_cases d:a<cQ g n 3
   .rw[if_pos d,Eu d];rfl
   .rw[if_neg d,Et (by omega)]
  .rw[A4,t,if_neg (by decide),if_neg (by decide),if_neg (by decide),if_neg (by decide)];rfl
 .have:x=(cQ g n 1+1) * (cQ g n 3+1):=by omega
  subst this
  rw[decide_eq_true p]at s
  rw[Par.ask_top (Par.rW_ok _ _),pV]
  unfold dm
  rw[← pV,s]
  rw[Af,cond_true]
end
end
section
open Classical
def cmpL:VI->VI->Int
 | [],[]=>0
 | [],_::_=> -1
 |_::_,[]=>1
 |x::xs,y::ys=>if x<y then -1 else if y<x then 1 else cmpL xs ys
theorem vJ (a b:Int):cC a b=some (if a<b then -1 else if b<a then 1 else 0):=by
 unfold cC bW
 by_cases h:a<b
 .simp[h]
 .by_cases c:b<a
  .simp[h,c]
  .simp[h,c]
theorem qV (xs ys:VI):∀(k j:Nat),j+k=xs.length->j<=ys.length->∃d,cntM (bt xs ys) k (j:Int) ()=some d/\(match d with
 |.inl g=>cmpL (xs.drop j) (ys.drop j)=g
 |.inr _=>cmpL (xs.drop j) (ys.drop j)=if xs.length<ys.length then -1 else 0)
 |0,j,h,hy=>by
  refine⟨_,rfl,?_⟩
  show cmpL _ _=_
  rw[show xs.drop j=[] from Ay (by omega)]
  by_cases c:xs.length<ys.length
  .rw[if_pos c,Ax (l:=ys) (by omega)];rfl
  .rw[if_neg c,show ys.drop j=[] from Ay (by omega)];rfl
 |k+1,j,h,hy=>by
  have e:xs[j]? =some (xs[j]'(by omega)):=nx (by omega)
  rw[Ax (l:=xs) (show j<xs.length by omega)]
  generalize xs[j]'(by omega)=x at e
  show ∃d,zm (bt xs ys (j:Int) ()) (lpK (cntM (bt xs ys) k ((j:Int)+1)))=some d/\_
  unfold bt
  rw[aS,e,Af]
  by_cases c:ys.length<=j
  .rw[decide_eq_true (by omega),cond_true,show ys.drop j=[] from Ay c]
   exact⟨_,rfl,rfl⟩
  .have f:ys[j]? =some (ys[j]'(by omega)):=nx (by omega)
   rw[Ax (l:=ys) (show j<ys.length by omega)]
   generalize ys[j]'(by omega)=y at f
   rw[decide_eq_false (by omega),cond_false,aS,f,Af,vJ,Af]
   unfold cmpL
   by_cases a:x<y
   .rw[if_pos a,if_pos a];exact⟨_,rfl,rfl⟩
   .rw[if_neg a,if_neg a]
    by_cases b:y<x
    .rw[if_pos b,if_pos b];exact⟨_,rfl,rfl⟩
    .rw[if_neg b,if_neg b]
     exact qV xs ys k (j+1) (by omega) (by omega)
theorem sm (xs ys:VI):bq xs ys=some (cmpL xs ys):=by
 obtain⟨d,c,a⟩:=qV xs ys xs.length 0 (by omega) (by omega)
 unfold bq
 rw[show(0:Int)=((0:Nat):Int) from rfl,c,Af]
 match d,a with
 |.inl e,a=>rw[pS,← a];rfl
 |.inr _,a=>
  have a:cmpL xs ys=_:=a
  rw[aU,a]
  by_cases b:xs.length<ys.length
  .rw[if_pos b,decide_eq_true (by omega)];rfl
  .rw[if_neg b,decide_eq_false (by omega)];rfl
theorem cmpE {k:VI}{m1 m3 x y:Nat}(m:k=(if 0<m3 then[3] else[])++(if 0<m1 then[1] else[])) (p:x<=(m1+1) * (m3+1)) (q:y<=(m1+1) * (m3+1)):∃c,bq (enc k (m1+1) ((m1+1) * (m3+1)) x) (enc k (m1+1) ((m1+1) * (m3+1)) y)=some c/\(0<c↔y<x)/\(c<0↔x<y):=by
 refine⟨_,sm _ _,?_⟩
 unfold enc
 by_cases g:x<(m1+1) * (m3+1)
 .by_cases f:y<(m1+1) * (m3+1)
  .rw[if_pos g,if_pos f]
   unfold cmpL
   rw[if_neg (Int.lt_irrefl 0),if_neg (Int.lt_irrefl 0),m]
   have n:=AC x (m1+1)
   have o:=AC y (m1+1)
   have u:=Nat.mod_lt x (Nat.succ_pos m1)
   have v:=Nat.mod_lt y (Nat.succ_pos m1)
   have w:=AE g
   have z:=AE f
   have l:∀a b:Nat,a<b->(m1+1) * a+(m1+1)<=(m1+1) * b:=λa b h=>by
    have:=AG (m1+1) (show a+1<=b by omega)
    rwa [Nat.mul_add,pb]at this
   have r:=l (x / (m1+1)) (y / (m1+1))
   have s:=l (y / (m1+1)) (x / (m1+1))
   have t:x / (m1+1)=y / (m1+1)->(m1+1) * (x / (m1+1))=(m1+1) * (y / (m1+1)):=λe=>by rw[e]
   generalize(m1+1) * (x / (m1+1))=ax at *
   generalize(m1+1) * (y / (m1+1))=ay at *
   generalize x / (m1+1)=a at *
   generalize y / (m1+1)=b at *
   generalize x % (m1+1)=c at *
   generalize y % (m1+1)=d at *
   by_cases j:0<m3 <;> by_cases i:0<m1
   .rw[if_pos j,if_pos i]
    show(0<(if(a:Int)<(b:Int) then -1 else if(b:Int)<(a:Int) then 1 else if(c:Int)<(d:Int) then -1 else if(d:Int)<(c:Int) then 1 else 0)↔_)/\((if(a:Int)<(b:Int) then -1 else if(b:Int)<(a:Int) then 1 else if(c:Int)<(d:Int) then -1 else if(d:Int)<(c:Int) then 1 else 0)<0↔_)
    split
    .omega
    .split
     .omega
     .split
      .omega
      .split <;> omega
   .rw[if_pos j,if_neg i]
    show(0<(if(a:Int)<(b:Int) then -1 else if(b:Int)<(a:Int) then 1 else 0)↔_)/\((if(a:Int)<(b:Int) then -1 else if(b:Int)<(a:Int) then 1 else 0)<0↔_)
    split
    .omega
    .split <;> omega
   .rw[if_neg j,if_pos i]
    show(0<(if(c:Int)<(d:Int) then -1 else if(d:Int)<(c:Int) then 1 else 0)↔_)/\((if(c:Int)<(d:Int) then -1 else if(d:Int)<(c:Int) then 1 else 0)<0↔_)
    split
    .omega
    .split <;> omega
   .rw[if_neg j,if_neg i]
    show(0<(0:Int)↔_)/\((0:Int)<0↔_)
    omega
  .rw[if_pos g,if_neg f]
   show(0<(if(0:Int)<1 then(-1:Int) else _)↔_)/\((if(0:Int)<1 then(-1:Int) else _)<0↔_)
   rw[if_pos (by omega)]
   omega
 .by_cases f:y<(m1+1) * (m3+1)
  .rw[if_neg g,if_pos f]
   show(0<(if(1:Int)<0 then(-1:Int) else if(0:Int)<1 then 1 else _)↔_)/\((if(1:Int)<0 then(-1:Int) else if(0:Int)<1 then 1 else _)<0↔_)
   rw[if_neg (by omega),if_pos (by omega)]
   omega
  .rw[if_neg g,if_neg f]
   show(0<(if(1:Int)<1 then(-1:Int) else if(1:Int)<1 then 1 else 0)↔_)/\((if(1:Int)<1 then(-1:Int) else if(1:Int)<1 then 1 else 0)<0↔_)
   rw[if_neg (by omega),if_neg (by omega)]
   omega
theorem cmpM {g:Parity}{n x y:Nat}(b:x<=mM g n) (c:y<=mM g n):∃a,bq (mE g n x) (mE g n y)=some a/\(0<a↔y<x)/\(a<0↔x<y):=cmpE rfl b c
end
section
open Classical
theorem xt {g:Parity}{n:Nat}:∀{L:List Nat},L≠[]->L.length<=1000->(∀b∈L,b<=mM g n)->∃b,b∈L/\(∀f∈L,b<=f)/\bf (L.map (mE g n))=some (mE g n b)
 | [],h,_,_=>absurd rfl h
 |d::L,_,hl,hm=>by
  have G:L.length<=999:=by rw[yr]at hl;omega
  have B:∀(k c:Nat) (b:Nat),c+k=L.length->b∈d::L.take c->(∀f∈d::L.take c,b<=f)->∃l,cntM (aZ ((d::L).map (mE g n))) k ((c+1:Nat):Int) (mE g n b)=some (.inr (mE g n l))/\l∈d::L/\∀f∈d::L,l<=f:=λk=>by
   induction k with
   |zero=>
    intro c b w m i
    rw[zi (by omega)]at m i
    exact⟨b,rfl,m,i⟩
   |succ k r=>
    intro c b w m i
    have j:L[c]? =some (L[c]'(by omega)):=nx (by omega)
    generalize L[c]'(by omega)=u at j
    have v:idx ((d::L).map (mE g n)) ((c+1:Nat):Int)=some (mE g n u):=by
     rw[aS,yX,List.getElem?_cons_succ,j];rfl
    have A:b<=mM g n:=hm b (yv.2 ((yv.1 m).imp id λo=>List.mem_of_mem_take o))
    have y:u<=mM g n:=hm u (zd _ (ze j))
    obtain⟨s,t,F,q⟩:=cmpM y A
    show ∃l,zm (aZ ((d::L).map (mE g n)) ((c+1:Nat):Int) (mE g n b)) (lpK (cntM (aZ ((d::L).map (mE g n))) k (((c+1:Nat):Int)+1)))=_/\_
    unfold aZ
    rw[v,Af,t,Af,show(((c+1:Nat):Int)+1)=((c+1+1:Nat):Int) from rfl]
    by_cases p:s<0
    .have z:=q.1 p
     rw[decide_eq_true p,cond_true,Af,Af,Af,jV]
     refine r (c+1) u (by omega) ?_ λf a=>?_
     .rw[bi j];simp
     .rw[bi j]at a
      rcases yv.1 a with e|a
      .have:=i f (by rw[e];exact zU ..);omega
      .rcases yu.1 a with a|a
       .have:=i f (zd _ a);omega
       .rw[yw.1 a];exact yE _
    .have z:¬u<b:=λo=>p (q.2 o)
     rw[decide_eq_false p,cond_false,Af,Af,jV]
     refine r (c+1) b (by omega) ?_ λf a=>?_
     .rw[bi j]
      rcases yv.1 m with e|o
      .rw[e];exact zU ..
      .exact zd _ (zT _ o)
     .rw[bi j]at a
      rcases yv.1 a with e|a
      .exact i f (by rw[e];exact zU ..)
      .rcases yu.1 a with a|a
       .exact i f (zd _ a)
       .rw[yw.1 a];omega
  obtain⟨l,C,D,E⟩:=B L.length 0 d (by omega) (by simp) (by simp)
  refine⟨l,D,E,?_⟩
  unfold bf
  have x:(((d::L).map (mE g n)).length:Int)=(L.length:Int)+1:=by rw[Al,yr];rfl
  rw[x,decide_eq_false (by omega),cond_false,Af,show Int.toNat ((L.length:Int)+1-1)=L.length by omega]
  show zm (cntM _ L.length ((0+1:Nat):Int) (mE g n d)) _=_
  rw[C];rfl
theorem xq {g:Parity}{n:Nat}:∀{L:List Nat},L≠[]->L.length<=1000->(∀b∈L,b<=mM g n)->∃b,b∈L/\(∀f∈L,f<=b)/\bc (L.map (mE g n))=some (mE g n b)
 | [],h,_,_=>absurd rfl h
 |d::L,_,hl,hm=>by
  have G:L.length<=999:=by rw[yr]at hl;omega
  have B:∀(k c:Nat) (b:Nat),c+k=L.length->b∈d::L.take c->(∀f∈d::L.take c,f<=b)->∃l,cntM (aW ((d::L).map (mE g n))) k ((c+1:Nat):Int) (mE g n b)=some (.inr (mE g n l))/\l∈d::L/\∀f∈d::L,f<=l:=λk=>by
   induction k with
   |zero=>
    intro c b w m i
    rw[zi (by omega)]at m i
    exact⟨b,rfl,m,i⟩
   |succ k r=>
    intro c b w m i
    have j:L[c]? =some (L[c]'(by omega)):=nx (by omega)
    generalize L[c]'(by omega)=u at j
    have v:idx ((d::L).map (mE g n)) ((c+1:Nat):Int)=some (mE g n u):=by
     rw[aS,yX,List.getElem?_cons_succ,j];rfl
    have A:b<=mM g n:=hm b (yv.2 ((yv.1 m).imp id λo=>List.mem_of_mem_take o))
    have y:u<=mM g n:=hm u (zd _ (ze j))
    obtain⟨s,t,q,F⟩:=cmpM y A
    show ∃l,zm (aW ((d::L).map (mE g n)) ((c+1:Nat):Int) (mE g n b)) (lpK (cntM (aW ((d::L).map (mE g n))) k (((c+1:Nat):Int)+1)))=_/\_
    unfold aW
    rw[v,Af,t,Af,show(((c+1:Nat):Int)+1)=((c+1+1:Nat):Int) from rfl]
    by_cases p:0<s
    .have z:=q.1 p
     rw[decide_eq_true p,cond_true,Af,Af,Af,jV]
     refine r (c+1) u (by omega) ?_ λf a=>?_
     .rw[bi j];simp
     .rw[bi j]at a
      rcases yv.1 a with e|a
      .have:=i f (by rw[e];exact zU ..);omega
      .rcases yu.1 a with a|a
       .have:=i f (zd _ a);omega
       .rw[yw.1 a];exact yE _
    .have z:¬b<u:=λo=>p (q.2 o)
     rw[decide_eq_false p,cond_false,Af,Af,jV]
     refine r (c+1) b (by omega) ?_ λf a=>?_
     .rw[bi j]
      rcases yv.1 m with e|o
      .rw[e];exact zU ..
      .exact zd _ (zT _ o)
     .rw[bi j]at a
      rcases yv.1 a with e|a
      .exact i f (by rw[e];exact zU ..)
      .rcases yu.1 a with a|a
       .exact i f (zd _ a)
       .rw[yw.1 a];omega
  obtain⟨l,C,D,E⟩:=B L.length 0 d (by omega) (by simp) (by simp)
  refine⟨l,D,E,?_⟩
  unfold bc
  have x:(((d::L).map (mE g n)).length:Int)=(L.length:Int)+1:=by rw[Al,yr];rfl
  rw[x,decide_eq_false (by omega),cond_false,Af,show Int.toNat ((L.length:Int)+1-1)=L.length by omega]
  show zm (cntM _ L.length ((0+1:Nat):Int) (mE g n d)) _=_
  rw[C];rfl
theorem wX (g:Parity) (t:VV) (v:Int):dY g t v=dL g t v:=rfl
noncomputable def tabL (g:Parity) (n:Nat) (T:Int->Nat):VV:=(Am n).map λv:Nat=>mE g n (T (v:Int))
theorem jN {g:Parity}{n:Nat}(T:Int->Nat){v:Int}(h:Xn n v):idx (tabL g n T) v=some (mE g n (T v)):=by
 obtain⟨k,rfl⟩:=bA h.1
 have:=h.2
 unfold tabL
 rw[aS,yX,List.getElem?_range (by omega)];rfl
theorem kH (g:Parity) (n:Nat) (T:Int->Nat):(tabL g n T).length=n:=by simp[tabL]
theorem tP {g:Parity}{n:Nat}{T:Int->Nat}{l:VV}(e:l.length=n) (h:∀v,Xn n v->idx l v=some (mE g n (T v))):l=tabL g n T:=by
 apply List.ext_getElem?
 intro a
 by_cases d:a<n
 .have b:=h (a:Int) ⟨by omega,by omega⟩
  have c:=jN (g:=g) T (n:=n) (v:=(a:Int)) ⟨by omega,by omega⟩
  rw[aS]at b c
  rw[b,c]
 .rw[List.getElem?_eq_none (by omega),List.getElem?_eq_none (by rw[kH];omega)]
section
variable {g:Parity}{n:Nat}(h:GOk g n) (h0:0<n) (hn:n<=6) (hp:∀v:Int,0<=v->v<n->(gI g).pri v<=4) (hN:Par.NoDead (gI g) (Xn n))
include h h0 hn hp hN
theorem tW {T:Int->Nat}(x:∀v,Xn n v->T v<=mM g n){v:Int}(i:Xn n v):∃d,dL g (tabL g n T) v=some (mE g n d)/\(∃a,(gI g).E v a/\Xn n a/\d=mA g n v (T a))/\((gI g).own v=false->∀a,(gI g).E v a->d<=mA g n v (T a))/\((gI g).own v=true->∀a,(gI g).E v a->mA g n v (T a)<=d):=by
 obtain⟨c,q⟩:=bg (xs:=g.Arena.Next) i.1 (by have:=h.ln;have:=i.2;omega)
 obtain⟨L,M,m⟩:=h.row v c q
 have j:∀a,(gI g).E v a↔a∈c:=λa=>by
  show a∈bm g.Arena v↔_
  rw[c8 q]
 have F:∀a∈c,mA g n v (T a)<=mM g n:=λa b=>Par.ask_le (x a (m a b))
 obtain⟨s,K,D⟩:=ba (f:=ej g (tabL g n T) v c) (λk (s:VV)=>s=((c.take k).map λa=>mA g n v (T a)).map (mE g n)) c.length (s:=[]) (by simp) (λk s E hs=>by
  subst hs
  have b:c[k]? =some c[k]:=nx E
  generalize c[k]=a at b
  have C:=m a (ze b)
  unfold ej
  rw[aS,b,Af,jN T C,Af,ut h h0 hn hp i (x a C),Af,app1 (by simp;omega) rfl,Af,bi b]
  exact⟨_,rfl,by simp⟩)
 rw[Ac]at D
 have A:(c.map λa=>mA g n v (T a))≠[]:=by
  obtain⟨a,b,_⟩:=hN v i
  have:=(j a).1 b
  intro e
  rw[List.map_eq_nil_iff]at e
  rw[e]at this
  cases this
 have z:(c.map λa=>mA g n v (T a)).length<=1000:=by rw[Al];omega
 have y:∀d∈(c.map λa=>mA g n v (T a)),d<=mM g n:=λd H=>by
  obtain⟨a,b,rfl⟩:=AA.1 H
  exact F a b
 obtain⟨I,o⟩:=bg (xs:=g.Arena.Owner) i.1 (by have:=h.lo;have:=i.2;omega)
 have G:=h.ow v I o
 have B:=qk (p:=false) o G
 rw[show b2i false=0 from rfl]at B
 unfold dL
 rw[q,Af,K,Af,aU,o,Af,B,D]
 by_cases hw:(gI g).own v=false
 .have r:ownL g.Arena.Owner v=false:=hw
  rw[decide_eq_true r,cond_true]
  obtain⟨d,t,u,w⟩:=xt A z y
  rw[w]
  obtain⟨a,b,e⟩:=AA.1 t
  refine⟨d,rfl,⟨a,(j a).2 b,m a b,e.symm⟩,λ_ a b=>u _ (List.mem_map_of_mem ((j a).1 b)),λl=>?_⟩
  rw[hw]at l;cases l
 .have r:¬ownL g.Arena.Owner v=false:=hw
  rw[decide_eq_false r,cond_false]
  obtain⟨d,t,u,w⟩:=xq A z y
  rw[w]
  obtain⟨a,b,e⟩:=AA.1 t
  exact⟨d,rfl,⟨a,(j a).2 b,m a b,e.symm⟩,λl=>absurd l hw,λ_ a b=>u _ (List.mem_map_of_mem ((j a).1 b))⟩
theorem se {T:Int->Nat}(k:∀v,Xn n v->T v<=mM g n):(∃v b,cA g (tabL g n T)=some v/\Xn n v/\dL g (tabL g n T) v=some (mE g n b)/\T v<b/\(∃a,(gI g).E v a/\Xn n a/\b=mA g n v (T a))/\((gI g).own v=false->∀a,(gI g).E v a->b<=mA g n v (T a))) \/
 (cA g (tabL g n T)=some (-1)/\∀v,Xn n v->((gI g).own v=false->∃a,(gI g).E v a/\Xn n a/\mA g n v (T a)<=T v)/\((gI g).own v=true->∀a,(gI g).E v a->Xn n a->mA g n v (T a)<=T v)):=by
 obtain⟨z,A,d⟩:=nI (f:=cq g (tabL g n T)) (λi (_:Unit)=>∀v:Int,0<=v->v<i->((gI g).own v=false->∃a,(gI g).E v a/\Xn n a/\mA g n v (T a)<=T v)/\((gI g).own v=true->∀a,(gI g).E v a->Xn n a->mA g n v (T a)<=T v))
  (λv=>∃b,Xn n v/\dL g (tabL g n T) v=some (mE g n b)/\T v<b/\(∃a,(gI g).E v a/\Xn n a/\b=mA g n v (T a))/\((gI g).own v=false->∀a,(gI g).E v a->b<=mA g n v (T a))) (λ_=>False) n (λi s O hs=>by
  have c:Xn n (i:Int):=⟨by omega,by omega⟩
  obtain⟨b,r,⟨a,p,m,q⟩,K,L⟩:=tW h h0 hn hp hN k c
  have y:b<=mM g n:=by rw[q];exact Par.ask_le (k a m)
  obtain⟨t,u,o,M⟩:=cmpM y (k _ c)
  unfold cq
  rw[jN T c,Af,r,Af,u,Af]
  by_cases j:0<t
  .rw[decide_eq_true j,cond_true]
   exact⟨_,rfl,b,c,r,o.1 j,⟨a,p,m,q⟩,K⟩
  .have P:¬T (i:Int)<b:=λl=>j (o.2 l)
   rw[decide_eq_false j,cond_false]
   refine⟨_,rfl,λw H I=>?_⟩
   by_cases e:w=(i:Int)
   .subst e
    exact⟨λ_=>⟨a,p,m,by omega⟩,λl G x N=>by have:=L l G x;omega⟩
   .exact hs w H (by push_cast at I;omega)) n 0 () (by omega) (λv Q R=>by omega)
 unfold cA
 rw[kH,show(0:Int)=((0:Nat):Int) from rfl,A,Af]
 match z,d with
 |.inl v,⟨b,B,C,D,E,F⟩=>exact .inl ⟨v,b,rfl,B,C,D,E,F⟩
 |.inr _,d=>
  rcases d with d|d
  .exact .inr ⟨rfl,λv c=>d v c.1 c.2⟩
  .exact d.elim
end
end
end Go.Proofs.YtgbippnfaoedmaaGreatDoor
