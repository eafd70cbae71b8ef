/- Strategy improvement: the worths of plays as numbers. Plain law, no program in sight. -/
import Derived.Test.YtgbippnfaoedmaaGreatDoorL1BG
import Derived.Test.YtgbippnfaoedmaaGreatDoorL0BG
import Derived.Test.YtgbippnfaoedmaaGreatDoorL2BG
import Derived.Test.YtgbippnfaoedmaaGreatDoorTextBG
import Derived.Test.YtgbippnfaoedmaaGreatDoorLwBG
import Derived.Lib.SplitLaws
import Derived.Lib.IndexBytes
set_option linter.unusedVariables false
set_option linter.unusedSimpArgs false
open Bool renaming and_eq_true → rx, not_true → zG
open Classical renaming byContradiction → zJ
open Int renaming le_refl → Av, mul_le_mul_of_nonneg_right → AK, tmod_eq_emod_of_nonneg → AL, toNat → zq, toNat_natCast → Aj
open Go.IntKind renaming bits → zA, u64 → zD, wrap → zr
open List renaming cons_append → zy, exists_cons_of_ne_nil → AM, getElem?_append_left → yT, getElem?_append_right → yU, getElem?_eq_getElem → nx, getElem?_eq_some_iff → yo, getElem?_replicate → zP, length_cons → yr, length_replicate → yZ, length_take → y8, map_cons → yt, mem_append → yu, mem_cons → yv, mem_cons_of_mem → zd, mem_cons_self → zU, mem_filter → zV, mem_iff_getElem? → zW, mem_map → AA, mem_of_getElem? → ze, mem_range → zX, mem_singleton → yw, nil_append → zz, range → Am, replicate → zf, sum_cons → AN
open Nat renaming le_mul_of_pos_left → AO, le_refl → yE, le_trans → Ae, mod_lt → AP, zero_add → yH
open Option renaming bind → zm, bind_some → Af
open Go.Proofs.YtgbippnfaoedmaaGreatDoor.Par renaming NoDead → Aq, oddP → As
namespace Go.Proofs.YtgbippnfaoedmaaGreatDoor.Par
section
open Classical
def it (f:Int->Int):Nat->Int->Int
 |0,v=>v
 |k+1,v=>it f k (f v)
theorem it_add (f:Int->Int):∀(a b:Nat) (v:Int),it f (a+b) v=it f b (it f a v)
 |0,b,v=>by rw[yH];rfl
 |a+1,b,v=>by rw[show a+1+b=a+b+1 by omega];exact it_add f a b (f v)
theorem it_one (f:Int->Int) (k:Nat) (v:Int):it f (k+1) v=f (it f k v):=it_add f k 1 v
theorem ot {f:Int->Int}{L:Nat}{h:Int}(e:it f L h=h):∀a:Nat,it f (L * a) h=h
 |0=>rfl
 |a+1=>by rw[Nat.mul_succ,it_add,ot e a,e]
theorem it_mod {f:Int->Int}{L:Nat}{h:Int}(e:it f L h=h) (t:Nat):it f t h=it f (t % L) h:=by
 have:=Nat.div_add_mod t L
 rw[← this,it_add,ot e,this]
theorem it_X {X:Int->Prop}{f:Int->Int}(hf:∀v,X v->X (f v)):∀(t:Nat){v:Int},X v->X (it f t v)
 |0,_,h=>h
 |t+1,v,h=>it_X hf t (hf v h)
structure RS where
 rk:Int->Nat
 sg:Int->Int
def RS.W (r:RS) (x:Int):Int:=1000 * 64 ^ r.rk x
def RS.dd (r:RS) (h x:Int):Int:=(if r.rk h<r.rk x then r.sg x * r.W x else 0)-r.sg h
def RS.hd (r:RS) (h:Int):Int:=r.sg h * ((r.rk h:Int)+1)
structure RS.Ok (r:RS) (X:Int->Prop):Prop where
 rng:∀v,X v->0<=v/\v<6
 sg:∀v,r.sg v=1\/r.sg v= -1
 rk:∀v,X v->r.rk v<=5
 inj:∀v u,X v->X u->r.rk v=r.rk u->v=u
structure Cyc (r:RS) (f:Int->Int) (h:Int):Prop where
 per:∃L,0<L/\L<=6/\it f L h=h
 top:∀t,it f t h=h\/r.rk (it f t h)<r.rk h
inductive Val (r:RS) (f:Int->Int):Int->Int->Int->Nat->Prop
 |base {h:Int}:Cyc r f h->Val r f h h 0 0
 |step {v h S:Int} {d:Nat}:v≠h->Val r f (f v) h S d->Val r f v h (S+r.dd h v) (d+1)
variable {r:RS}{X:Int->Prop}{f f':Int->Int}
theorem Val.hit {v h S:Int}{d:Nat}(a:Val r f v h S d):it f d v=h/\Cyc r f h:=by
 induction a with
 |base h=>exact⟨rfl,h⟩
 |step _ _ b=>exact b
theorem Cyc.eq {h b:Int}(c:Cyc r f h) (j:Cyc r f b){m:Nat}(e:it f m h=b):h=b:=by
 obtain⟨a,k,_,l⟩:=c.per
 have n:m<=a * m:=AO m k
 have i:it f (a * m-m) b=h:=by rw[← e,← it_add,show m+(a * m-m)=a * m by omega,ot l]
 rcases c.top m with d|d
 .rw[← e,d]
 .rcases j.top (a * m-m) with g|g
  .rw[← i,g]
  .rw[e]at d;rw[i]at g;omega
theorem Val.head {v h S k S':Int}{d c:Nat}(a:Val r f v h S d) (b:Val r f v k S' c):h=k:=by
 obtain⟨e,g⟩:=a.hit
 obtain⟨i,j⟩:=b.hit
 by_cases l:d<=c
 .exact g.eq j (m:=c-d) (by rw[← e,← it_add,show d+(c-d)=c by omega,i])
 .exact(j.eq g (m:=d-c) (by rw[← i,← it_add,show c+(d-c)=d by omega,e])).symm
theorem Val.sum {v h S S':Int}{d c:Nat}(a:Val r f v h S d) (b:Val r f v h S' c):S=S'/\d=c:=by
 induction a generalizing S' c with
 |base _=>
  cases b with
  |base _=>exact⟨rfl,rfl⟩
  |step n _=>exact absurd rfl n
 |step n _ i=>
  cases b with
  |base _=>exact absurd rfl n
  |step _ b=>
   obtain⟨e,g⟩:=i b
   exact⟨by rw[e],by rw[g]⟩
noncomputable def vh (r:RS) (f:Int->Int) (v:Int):Int:=if e:∃h a b,Val r f v h a b then e.choose else 0
noncomputable def vs (r:RS) (f:Int->Int) (v:Int):Int:=if e:∃h a b,Val r f v h a b then e.choose_spec.choose else 0
noncomputable def nv (r:RS) (f:Int->Int) (v:Int):Int:=r.hd (vh r f v) * 100000000000000+vs r f v
theorem Val.is {v h S:Int}{d:Nat}(a:Val r f v h S d):vh r f v=h/\vs r f v=S:=by
 have b:∃h S d,Val r f v h S d:=⟨h,S,d,a⟩
 have i:vh r f v=b.choose:=dif_pos b
 have j:vs r f v=b.choose_spec.choose:=dif_pos b
 obtain⟨g,c⟩:=b.choose_spec.choose_spec
 have c:Val r f v (vh r f v) (vs r f v) g:=by rw[i,j];exact c
 have e:=a.head c
 rw[← e]at c
 exact⟨e.symm,(a.sum c).1.symm⟩
theorem Val.mk' {h:Int}(c:Cyc r f h):∀(m:Nat){v:Int},it f m v=h->∃d b,b<=m/\Val r f v h d b
 |0,v,a=>by
  have a:v=h:=a
  subst a
  exact⟨0,0,yE _,.base c⟩
 |m+1,v,a=>by
  by_cases e:v=h
  .subst e;exact⟨0,0,by omega,.base c⟩
  .obtain⟨d,b,i,g⟩:=Val.mk' c m (v:=f v) a
   exact⟨_,b+1,by omega,.step e g⟩
theorem wM (F:Nat->Nat):∀b:Nat,0<b->∃c,c<b/\∀a,a<b->F a<=F c
 |0,h=>absurd h (by omega)
 |1,_=>⟨0,by omega,λa f=>by rw[show a=0 by omega];exact yE _⟩
 |b+2,_=>by
  obtain⟨c,g,e⟩:=wM F (b+1) (by omega)
  by_cases h:F c<=F (b+1)
  .refine⟨b+1,by omega,λa f=>?_⟩
   by_cases d:a=b+1
   .rw[d];exact yE _
   .exact Ae (e a (by omega)) h
  .refine⟨c,by omega,λa f=>?_⟩
   by_cases d:a=b+1
   .rw[d];omega
   .exact e a (by omega)
section
variable (hr:r.Ok X) (hf:∀v,X v->X (f v))
include hr hf
theorem Val.ex {v:Int}(k:X v):∃h i g,Val r f v h i g/\g<=6/\X h:=by
 obtain⟨a,d,u,w,j⟩:∃a d:Nat,a<d/\d<=6/\it f a v=it f d v:=by
  apply zJ
  intro hn
  have q:((Am 7).map λc:Nat=>it f c v).Nodup:=by
   unfold List.Nodup
   rw[List.pairwise_map]
   refine List.Pairwise.imp_of_mem (λ{l b} ha hb o=>?_) List.pairwise_lt_range
   intro j
   rw[zX]at ha hb
   exact hn ⟨l,b,o,by omega,j⟩
  have:=cF 6 _ q λx hx=>by
   obtain⟨c,_,rfl⟩:=AA.1 hx
   exact hr.rng _ (it_X hf c k)
  simp at this
 have hc:it f (d-a) (it f a v)=it f a v:=by rw[← it_add,show a+(d-a)=d by omega,j]
 obtain⟨e,y,s⟩:=wM (λc=>r.rk (it f c (it f a v))) (d-a) (by omega)
 have hX:∀c,X (it f c (it f a v)):=λc=>it_X hf c (it_X hf a k)
 have m:Cyc r f (it f e (it f a v)):=by
  refine⟨⟨d-a,by omega,by omega,by rw[← it_add,Nat.add_comm,it_add,hc]⟩,λc=>?_⟩
  rw[← it_add,it_mod hc (e+c)]
  have:=s ((e+c) % (d-a)) (AP _ (by omega))
  by_cases p:r.rk (it f ((e+c) % (d-a)) (it f a v))=r.rk (it f e (it f a v))
  .exact .inl (hr.inj _ _ (hX _) (hX _) p)
  .exact .inr (by omega)
 obtain⟨i,g,t,n⟩:=Val.mk' m (a+e) (v:=v) (by rw[it_add])
 exact⟨_,i,g,n,by omega,hX _⟩
omit hr hf in
theorem RS.Ok.w1 (x:Int):1000<=r.W x:=by
 have:(0:Int)<64 ^ r.rk x:=Int.pow_pos (by omega)
 unfold RS.W
 omega
omit hr hf in
theorem RS.Ok.w_le {x:Int}{k:Nat}(h:r.rk x<=k):r.W x<=1000 * 64 ^ k:=by
 have:((64 ^ r.rk x:Nat):Int)<=((64 ^ k:Nat):Int):=Int.ofNat_le.2 (Nat.pow_le_pow_right (by omega) h)
 rw[Int.natCast_pow,Int.natCast_pow]at this
 unfold RS.W
 exact Int.mul_le_mul_of_nonneg_left this (by omega)
omit hf in
theorem RS.Ok.dd_le {h x:Int}{k:Nat}(c:r.rk x<=k):r.dd h x<=1000 * 64 ^ k+1/\ -(1000 * 64 ^ k+1)<=r.dd h x:=by
 have d:=RS.Ok.w1 (r:=r) x
 have e:=RS.Ok.w_le c
 unfold RS.dd
 generalize r.W x=w at *
 generalize(1000 * 64 ^ k:Int)=m at *
 rcases hr.sg h with a|a <;> rw[a] <;> split <;> first|omega|(rcases hr.sg x with b|b <;> rw[b] <;> omega)
theorem Val.bd {v h S:Int}{d:Nat}(a:Val r f v h S d) (b:X v):S<=d * 1073741824001/\ -(d * 1073741824001)<=S:=by
 induction a with
 |base _=>exact⟨by simp,by simp⟩
 | @step v h S d n a e=>
  have g:=e (hf v b)
  have c:=hr.dd_le (h:=h) (hr.rk v b)
  rw[show(1000 * 64 ^ 5+1:Int)=1073741824001 by decide]at c
  push_cast
  omega
theorem vh_X {v:Int}(b:X v):X (vh r f v):=by
 obtain⟨h,c,d,a,_,hx⟩:=Val.ex hr hf b
 rw[a.is.1];exact hx
theorem oN {v:Int}(b:X v):vs r f v<=6442450944006/\ -6442450944006<=vs r f v:=by
 obtain⟨h,c,d,a,e,hx⟩:=Val.ex hr hf b
 have:=a.bd hr hf b
 rw[a.is.2]
 omega
omit hr hf in
theorem Cyc.low {h:Int}(c:Cyc r f h){v S:Int}{d:Nat}(a:Val r f v h S d) (t:Nat) (e:it f t h=v):S= -(r.sg h * d):=by
 induction a generalizing t with
 |base _=>simp
 | @step v h S d n a j=>
  have:=j c (t+1) (by rw[it_one,e])
  have b:=c.top t
  rw[e]at b
  have i:¬r.rk h<r.rk v:=by
   rcases b with g|g
   .rw[g];omega
   .omega
  unfold RS.dd
  rw[if_neg i,this]
  push_cast
  rw[Int.mul_add]
  omega
theorem kQ {v:Int}(i:X v):vh r f (f v)=vh r f v/\(v≠vh r f v->vs r f v=vs r f (f v)+r.dd (vh r f v) v)/\(v=vh r f v->vs r f v=0/\ -6<=vs r f (f v)):=by
 obtain⟨h,t,w,g,x,hx⟩:=Val.ex hr hf i
 obtain⟨o,p⟩:=g.is
 rw[o,p]
 cases g with
 |base c=>
  obtain⟨q,u,l,b,y,z⟩:=Val.ex hr hf (hf v i)
  obtain⟨j,k⟩:=b.hit
  have:v=q:=c.eq k (m:=l+1) j
  subst this
  obtain⟨d,e⟩:=b.is
  have s:=Cyc.low c b 1 rfl
  refine⟨d,λn=>absurd rfl n,λ_=>⟨rfl,?_⟩⟩
  rw[e,s]
  rcases hr.sg v with a|a <;> rw[a] <;> omega
 |step n b=>
  obtain⟨d,e⟩:=b.is
  exact⟨d,λ_=>by rw[e],λa=>absurd a n⟩
omit hf in
theorem hd_inj {h a:Int}(hx:X h) (d:X a) (e:r.hd h=r.hd a):h=a:=by
 refine hr.inj h a hx d ?_
 unfold RS.hd at e
 rcases hr.sg h with b|b <;> rcases hr.sg a with c|c <;> rw[b,c]at e <;> omega
theorem hd_le (c:∀v,X v->X (f' v)){a b:Int}(ha:X a) (hb:X b):(nv r f a<=nv r f' b->r.hd (vh r f a)<=r.hd (vh r f' b))/\(r.hd (vh r f a)<r.hd (vh r f' b)->nv r f a<=nv r f' b):=by
 have d:=oN hr hf ha
 have e:=oN hr c hb
 unfold nv
 omega
end
theorem tele {a:Nat->Int}{c:Int}(h:∀d,0<d->a d<=a (d+1)+c):∀b:Nat,a 1<=a (1+b)+b * c
 |0=>by simp
 |b+1=>by
  have e:=tele h b
  have f:=h (1+b) (by omega)
  rw[show 1+(b+1)=1+b+1 by omega]
  push_cast
  rw[Int.add_mul]
  omega
theorem xi (hr:r.Ok X) (hf:∀v,X v->X (f v)) (C:∀v,X v->X (f' v)) (E:∀v,X v->nv r f (f v)<=nv r f (f' v)){k:Int}(n:X k) (c:Cyc r f' k):nv r f k<=r.hd k * 100000000000000:=by
 obtain⟨i,Q,V,u⟩:=c.per
 have hX:∀b,X (it f' b k):=λb=>it_X C b n
 have D:=vh_X hr hf n
 have R:∀b,r.hd (vh r f (it f' b k))<=r.hd (vh r f (it f' (b+1) k)):=λb=>by
  have l:=(hd_le hr hf hf (hf _ (hX b)) (C _ (hX b))).1 (E _ (hX b))
  rwa [(kQ hr hf (hX b)).1,← it_one f' b k]at l
 have F:∀o b,r.hd (vh r f (it f' b k))<=r.hd (vh r f (it f' (b+o) k)):=λo b=>by
  induction o with
  |zero=>exact Av _
  |succ o P=>exact Int.le_trans P (R (b+o))
 have p:∀b,vh r f (it f' b k)=vh r f k:=λb=>by
  refine hd_inj hr (vh_X hr hf (hX b)) D (Int.le_antisymm ?_ ?_)
  .have:=F (i * b-b) b
   rwa [show b+(i * b-b)=i * b by have:=AO b Q;omega,ot u]at this
  .have:=F b 0
   rwa [yH]at this
 have S:=oN hr hf n
 generalize hh0:vh r f k=h at *
 have G:∀b,vs r f (f (it f' b k))<=vs r f (it f' (b+1) k):=λb=>by
  have l:=E _ (hX b)
  unfold nv at l
  rw[(kQ hr hf (hX b)).1,p b,← it_one f' b k,p (b+1)]at l
  omega
 have w:∀b,it f' b k≠h->vs r f (it f' b k)<=vs r f (it f' (b+1) k)+r.dd h (it f' b k):=λb j=>by
  have l:=G b
  have m:=(kQ hr hf (hX b)).2.1
  rw[p b]at m
  have:=m j
  omega
 have H:∀b,vs r f (it f' b k)<=vs r f (it f' (b+1) k)+(r.dd h (it f' b k)+7):=λb=>by
  by_cases j:it f' b k=h
  .have l:=G b
   have m:=(kQ hr hf (hX b)).2.2
   rw[p b]at m
   have:=m j
   have: -1<=r.dd h (it f' b k):=by
    unfold RS.dd
    rw[j,if_neg (Nat.lt_irrefl _)]
    rcases hr.sg h with e|e <;> rw[e] <;> omega
   omega
  .have:=w b j
   omega
 unfold nv
 rw[hh0]
 by_cases e:k=h
 .have:=(kQ hr hf n).2.2 (by rw[hh0];exact e)
  rw[this.1,← e]
  omega
 .have U:r.rk h≠r.rk k:=λd=>e (hr.inj _ _ n D d.symm)
  suffices r.hd h<r.hd k by omega
  have B:1+(i-1)=i:=by omega
  by_cases N:r.rk h<r.rk k
  · -- a heavier vertex on the loop
    have t:r.sg k=1:=by
     rcases hr.sg k with d|d
     .exact d
     exfalso
     obtain⟨g,O⟩:∃g,r.rk k=g+1:=⟨r.rk k-1,by omega⟩
     have M:r.W k=64 * (1000 * 64 ^ g):=by unfold RS.W;rw[O,Int.pow_succ];omega
     have T:(0:Int)<64 ^ g:=Int.pow_pos (by omega)
     have z:∀b,it f' b k=k->r.dd h (it f' b k)<= -(64 * (1000 * 64 ^ g))+1:=λb j=>by
      unfold RS.dd
      rw[j,if_pos N,d,M]
      rcases hr.sg h with e|e <;> rw[e] <;> omega
     have I:∀b,r.dd h (it f' b k)+7<=1000 * 64 ^ g+8:=λb=>by
      rcases c.top b with d|d
      .have:=z b d
       omega
      .have:=(hr.dd_le (h:=h) (x:=it f' b k) (k:=g) (by omega)).1
       omega
     have y:=tele (a:=λb=>vs r f (it f' b k)) (c:=1000 * 64 ^ g+8) (λb _=>by
      have:=H b
      have:=I b
      omega) (i-1)
     rw[B,u]at y
     have q:=H 0
     have K:=z 0 rfl
     rw[show it f' 0 k=k from rfl]at q K
     rw[yH]at q
     have L:((i-1:Nat):Int)<=5:=by omega
     have:((i-1:Nat):Int) * (1000 * 64 ^ g+8)<=5 * (1000 * 64 ^ g+8):=AK L (by omega)
     omega
    unfold RS.hd
    rw[t]
    rcases hr.sg h with e|e <;> rw[e] <;> omega
  · -- none
    have s:∀b,r.rk (it f' b k)<r.rk h:=λb=>by
     rcases c.top b with d|d
     .rw[d];omega
     .omega
    have t:r.sg h= -1:=by
     rcases hr.sg h with d|d
     .exfalso
      have A:∀b,r.dd h (it f' b k)= -1:=λb=>by
       unfold RS.dd
       rw[if_neg (by have:=s b;omega),d];omega
      have hn:∀b,it f' b k≠h:=λb d=>by have:=s b;rw[d]at this;omega
      have y:=tele (a:=λb=>vs r f (it f' b k)) (c:= -1) (λb _=>by
       have:=w b (hn b)
       rw[A b]at this
       exact this) (i-1)
      rw[B,u]at y
      have q:=w 0 (hn 0)
      rw[A 0,show it f' 0 k=k from rfl,yH]at q
      omega
     .exact d
    have:=s 0
    rw[show it f' 0 k=k from rfl]at this
    unfold RS.hd
    rw[t]
    rcases hr.sg k with e|e <;> rw[e] <;> omega
theorem sy (hr:r.Ok X) (hf:∀v,X v->X (f v)) (d:∀v,X v->X (f' v)) (p:∀v,X v->nv r f (f v)<=nv r f (f' v)) (v:Int) (a:X v):nv r f v<=nv r f' v:=by
 obtain⟨i,e,m,b,o,j⟩:=Val.ex hr d a
 clear o
 have g:nv r f' v=r.hd i * 100000000000000+e:=by unfold nv;rw[b.is.1,b.is.2]
 rw[g]
 clear g
 induction b with
 |base c=>
  have:=xi hr hf d p j c
  omega
 | @step v i e m n b y=>
  have q:=y (d v a) j
  have s:=p v a
  obtain⟨z,t,G⟩:=kQ hr hf a
  have u:=b.bd hr d (d v a)
  have A:=oN hr hf a
  have B:=oN hr hf (hf v a)
  have w:=hr.dd_le (h:=i) (hr.rk v a)
  rw[show(1000 * 64 ^ 5+1:Int)=1073741824001 by decide]at w
  have x:=vh_X hr hf a
  have k:=Int.le_trans s q
  have F:(m:Int)<=6:=by
   obtain⟨E,S',D,l,o,_⟩:=Val.ex hr d (d v a)
   have:=b.head l
   subst this
   have:=(b.sum l).2
   omega
  have C:e<=6442450944006/\ -6442450944006<=e:=by omega
  clear u q s
  unfold nv at k ⊢
  rw[z]at k
  by_cases g:r.hd (vh r f v)=r.hd i
  .have:=hd_inj hr x j g
   rw[this]at t k ⊢
   have:=t n
   omega
  .omega
def RS.neg (r:RS):RS:=⟨r.rk,λx=> -r.sg x⟩
theorem RS.Ok.neg (hr:r.Ok X):r.neg.Ok X:=⟨hr.rng,λv=>by
 show -r.sg v=1\/ -r.sg v= -1
 rcases hr.sg v with a|a <;> rw[a] <;> simp,hr.rk,hr.inj⟩
theorem Val.neg {v h S:Int}{d:Nat}(a:Val r f v h S d):Val r.neg f v h (-S) d:=by
 induction a with
 |base c=>exact .base ⟨c.per,c.top⟩
 | @step v h S d n a b=>
  have: -(S+r.dd h v)= -S+r.neg.dd h v:=by
   unfold RS.dd RS.neg RS.W
   dsimp only
   rw[Int.neg_mul]
   split <;> omega
  rw[this]
  exact .step n b
theorem qh (hr:r.Ok X) (hf:∀v,X v->X (f v)){v:Int}(b:X v):nv r.neg f v= -nv r f v:=by
 obtain⟨h,c,d,a,_,hx⟩:=Val.ex hr hf b
 unfold nv
 rw[a.is.1,a.is.2,a.neg.is.1,a.neg.is.2]
 unfold RS.hd RS.neg
 dsimp only
 rw[Int.neg_mul]
 omega
theorem uI (hr:r.Ok X) (hf:∀v,X v->X (f v)) (a:∀v,X v->X (f' v)) (c:∀v,X v->nv r f (f' v)<=nv r f (f v)) (v:Int) (b:X v):nv r f' v<=nv r f v:=by
 have:=sy hr.neg hf a (λx hx=>by
  rw[qh hr hf (hf x hx),qh hr hf (a x hx)]
  have:=c x hx
  omega) v b
 rw[qh hr hf b,qh hr a b]at this
 omega
theorem oq (hf:∀v,X v->X (f v)) (a:∀v,X v->f v=f' v):∀(t:Nat){v:Int},X v->it f t v=it f' t v
 |0,_,_=>rfl
 |t+1,v,h=>by
  show it f t (f v)=it f' t (f' v)
  rw[oq hf a t (hf v h),a v h]
theorem Val.congr (hf:∀v,X v->X (f v)) (e:∀v,X v->f v=f' v){v h S:Int}{d:Nat}(a:Val r f v h S d) (b:X v):Val r f' v h S d:=by
 induction a with
 |base c=>exact .base ⟨by
  obtain⟨g,k,l,m⟩:=c.per
  exact⟨g,k,l,by rw[← oq hf e g b];exact m⟩,λi=>by rw[← oq hf e i b];exact c.top i⟩
 |step n a j=>
  refine .step n ?_
  rw[← e _ b]
  exact j (hf _ b)
theorem nv_congr (hr:r.Ok X) (hf:∀v,X v->X (f v)) (d:∀v,X v->f v=f' v){v:Int}(c:X v):nv r f v=nv r f' v:=by
 obtain⟨h,e,g,a,_,hx⟩:=Val.ex hr hf c
 have b:=a.congr hf d c
 unfold nv
 rw[a.is.1,a.is.2,b.is.1,b.is.2]
end
section
open Classical
def smI (F:Int->Int):Nat->Int
 |0=>0
 |k+1=>smI F k+F k
theorem vq {F F':Int->Int}:∀n:Nat,(∀v:Int,0<=v->v<n->F v<=F' v)->smI F n<=smI F' n
 |0,_=>Av _
 |n+1,h=>by
  have b:=vq n λv a d=>h v a (by push_cast;omega)
  have c:=h n (by omega) (by push_cast;omega)
  show smI F n+F n<=smI F' n+F' n
  omega
theorem smI_lt {F F':Int->Int}:∀n:Nat,(∀v:Int,0<=v->v<n->F v<=F' v)->∀v:Int,0<=v->v<n->F v<F' v->smI F n<smI F' n
 |0,_,v,a,b,_=>absurd b (by omega)
 |n+1,h,v,a,b,hl=>by
  have c:∀v:Int,0<=v->v<n->F v<=F' v:=λv a b=>h v a (by push_cast;omega)
  have e:=h n (by omega) (by push_cast;omega)
  show smI F n+F n<smI F' n+F' n
  by_cases d:v=n
  .have:=vq n c
   rw[d]at hl
   omega
  .have:=smI_lt n c v a (by push_cast at b;omega) hl
   omega
theorem smI_bd {F:Int->Int}{b:Int}:∀n:Nat,(∀v:Int,0<=v->v<n->F v<=b/\ -b<=F v)->smI F n<=n * b/\ -(n * b)<=smI F n
 |0,_=>by simp[smI]
 |n+1,h=>by
  have c:=smI_bd n λv a e=>h v a (by push_cast;omega)
  have d:=h n (by omega) (by push_cast;omega)
  show smI F n+F n<=_/\_<=smI F n+F n
  push_cast
  rw[Int.add_mul]
  omega
def Whole (G:Gm) (X:Int->Prop) (f:Int->Int):Prop:=∀v,X v->G.E v (f v)/\X (f v)
def Fol (G:Gm) (X:Int->Prop) (σ f:Int->Int):Prop:=∀v,X v->G.own v=false->f v=σ v
structure Opt (r:RS) (G:Gm) (X:Int->Prop) (σ f:Int->Int):Prop where
 whole:Whole G X f
 fol:Fol G X σ f
 best:∀v u,X v->G.own v=true->G.E v u->X u->nv r f (f v)<=nv r f u
section
variable {r:RS}{G:Gm}{X:Int->Prop}{n:Nat}(hr:r.Ok X)
include hr
theorem nv_bd {f:Int->Int}(hf:∀v,X v->X (f v)){v:Int}(b:X v):nv r f v<=1000000000000000/\ -1000000000000000<=nv r f v:=by
 have c:=oN hr hf b
 have d:=hr.rk _ (vh_X hr hf b)
 unfold nv RS.hd
 rcases hr.sg (vh r f v) with a|a <;> rw[a] <;> omega
theorem Opt.least {σ f f':Int->Int}(c:Opt r G X σ f) (d:Whole G X f') (hf:Fol G X σ f'){v:Int}(a:X v):nv r f v<=nv r f' v:=by
 refine sy hr (λv a=>(c.whole v a).2) (λv a=>(d v a).2) (λx hx=>?_) v a
 cases b:G.own x with
 |false=>rw[c.fol x hx b,hf x hx b];exact Av _
 |true=>exact c.best x _ hx b (d x hx).1 (d x hx).2
variable (hX:∀v,X v↔0<=v/\v<n) (hn:n<=6)
include hX hn
theorem Opt.ex {σ:Int->Int}(hN:NoDead G X) (C:∀v,X v->G.own v=false->G.E v (σ v)/\X (σ v)):∃f,Opt r G X σ f:=by
 have E:∀(l:Nat) (f:Int->Int),Whole G X f->Fol G X σ f->smI (λv=>nv r f v+nv r f (f v)) n<(l:Int)-12000000000000000->∃f,Opt r G X σ f:=λl=>by
  induction l with
  |zero=>
   intro f e hf h
   have:=(smI_bd (F:=λv=>nv r f v+nv r f (f v)) (b:=2000000000000000) n λv H I=>by
    have c:=(hX v).2 ⟨H,I⟩
    have s:=nv_bd hr (λv c=>(e v c).2) c
    have p:=nv_bd hr (λv c=>(e v c).2) (e v c).2
    omega).2
   have M:((n:Int) * 2000000000000000)<=6 * 2000000000000000:=AK (by omega) (by omega)
   omega
  |succ l D=>
   intro f e hf h
   by_cases hb:∀v a,X v->G.own v=true->G.E v a->X a->nv r f (f v)<=nv r f a
   .exact⟨f,e,hf,hb⟩
   .obtain⟨v,a,c,i,z,B,N⟩:∃v a,X v/\G.own v=true/\G.E v a/\X a/\nv r f a<nv r f (f v):=by
     apply zJ
     intro hn
     exact hb λv a u b w y=>Int.not_lt.1 λd=>hn ⟨v,a,u,b,w,y,d⟩
    have m:updF f v a v=a:=if_pos rfl
    have o:∀x,x≠v->updF f v a x=f x:=λx hx=>if_neg hx
    have k:Whole G X (updF f v a):=λx hx=>by
     by_cases d:x=v
     .subst d;rw[m];exact⟨z,B⟩
     .rw[o x d];exact e x hx
    have A:Fol G X σ (updF f v a):=λx hx q=>by
     have d:x≠v:=λd=>by rw[d,i]at q;cases q
     rw[o x d];exact hf x hx q
    have t:∀x,X x->nv r f (updF f v a x)<=nv r f (f x):=λx hx=>by
     by_cases d:x=v
     .subst d;rw[m];omega
     .rw[o x d];exact Av _
    have j:∀x,X x->nv r (updF f v a) x<=nv r f x:=uI hr (λx hx=>(e x hx).2) (λx hx=>(k x hx).2) t
    refine D _ k A ?_
    have:=smI_lt (F:=λx=>nv r (updF f v a) x+nv r (updF f v a) (updF f v a x)) (F':=λx=>nv r f x+nv r f (f x)) n (λx K L=>by
     have hx:=(hX x).2 ⟨K,L⟩
     have s:=j x hx
     have p:=j _ (k x hx).2
     have h3:=t x hx
     omega) v ((hX v).1 c).1 ((hX v).1 c).2 (by
     have s:=j v c
     have p:=j _ (k v c).2
     rw[m]at p ⊢
     omega)
    push_cast at h
    omega
 let g:Int->Int:=λv=>if G.own v=false then σ v else if h:∃a,G.E v a/\X a then h.choose else v
 have e:Whole G X g:=λv c=>by
  by_cases i:G.own v=false
  .have d:g v=σ v:=if_pos i
   rw[d];exact C v c i
  .have d:g v=(hN v c).choose:=by
    show(if _ then _ else _)=_
    rw[if_neg i,dif_pos (hN v c)]
   rw[d];exact(hN v c).choose_spec
 exact E (smI (λv=>nv r g v+nv r g (g v)) n+12000000000000001).toNat g e (λv c i=>if_pos i) (by omega)
omit hX hn in
theorem Opt.mono {σ e f f':Int->Int}(d:Opt r G X σ f) (c:Opt r G X e f') (h:∀v,X v->G.own v=false->nv r f (σ v)<=nv r f (e v)){v:Int}(a:X v):nv r f v<=nv r f' v:=by
 refine sy hr (λv a=>(d.whole v a).2) (λv a=>(c.whole v a).2) (λx hx=>?_) v a
 cases b:G.own x with
 |false=>rw[d.fol x hx b,c.fol x hx b];exact h x hx b
 |true=>exact d.best x _ hx b (c.whole x hx).1 (c.whole x hx).2
omit hX hn in
theorem pJ (hp:∀x n,X x->X n->r.rk x<r.rk n->G.pri x<=G.pri n){q:Bool}{D:Int->Prop}{J f:Int->Int}(g:∀v,D v->X v) (B:∀v,D v->G.own v=q->G.E v (J v)/\D (J v)) (h3:∀v m,D v->¬G.own v=q->G.E v m->X m->D m) (C:∀u,Play G q D J u->Wins G q u) (e:Whole G X f) (hf:∀v,D v->G.own v=q->f v=J v){v:Int}(c:D v):oddP (G.pri (vh r f v))=q:=by
 obtain⟨h,I,b,o,_,hx⟩:=Val.ex hr (λv c=>(e v c).2) (g v c)
 obtain⟨p,s⟩:=o.hit
 rw[o.is.1]
 have E:∀x,D x->D (f x):=λx hx=>by
  by_cases d:G.own x=q
  .rw[hf x hx d];exact(B x hx d).2
  .exact h3 x _ hx d (e x (g x hx)).1 (e x (g x hx)).2
 obtain⟨j,y,z,N,A⟩:=C (λa=>it f a v) λa=>by
  have k:=it_X E a c
  dsimp only
  rw[it_one]
  exact⟨k,(e _ (g _ k)).1,λd=>hf _ k d⟩
 obtain⟨w,F,_,H⟩:=s.per
 have t:=A (b+w * N) (by have:=AO N F;omega)
 dsimp only at t
 rw[it_add,p,ot H]at t
 obtain⟨a,K,i⟩:=z b
 have i:G.pri (it f a v)=j:=i
 rw[show a=b+(a-b) by omega,it_add,p]at i
 have:j<=G.pri h:=by
  rcases s.top (a-b) with l|l
  .rw[l]at i;omega
  .have:=hp _ _ (it_X (λv c=>(e v c).2) (a-b) hx) hx l
   omega
 rw[show G.pri h=j by omega]
 exact y
omit hX hn in
theorem opt_wins (hp:∀x w,X x->X w->r.rk x<r.rk w->G.pri x<=G.pri w) (z:∀x,X x->(r.sg x=1↔oddP (G.pri x)=false)){σ f:Int->Int}(g:Opt r G X σ f) (hb:∀v u,X v->G.own v=false->G.E v u->X u->nv r f u<=nv r f (σ v)){W:Int->Prop}(y:Sol G X false W){v:Int}(b:X v):(0<nv r f v->r.sg (vh r f v)=1)/\(r.sg (vh r f v)=1↔W v):=by
 have o:∀v,X v->X (f v):=λv b=>(g.whole v b).2
 have m:∀{f:Int->Int},(∀v,X v->X (f v))->(0<nv r f v↔r.sg (vh r f v)=1):=λ{f} hf=>by
  have e:=oN hr hf b
  unfold nv RS.hd
  rcases hr.sg (vh r f v) with a|a <;> rw[a]
  .exact⟨λ_=>rfl,λ_=>by omega⟩
  .exact⟨λh=>by omega,λh=>by omega⟩
 refine⟨(m o).1,?_⟩
 by_cases p:W v
 .refine⟨λ_=>p,λ_=>?_⟩
  obtain⟨n,i,d,q,s⟩:=y.mine
  let f':Int->Int:=λx=>if W x/\G.own x=false then n x else f x
  have j:∀x,W x->G.own x=false->f' x=n x:=λx e l=>if_pos ⟨e,l⟩
  have k:∀x,¬(W x/\G.own x=false)->f' x=f x:=λx h=>if_neg h
  have c:Whole G X f':=λx hx=>by
   by_cases a:W x/\G.own x=false
   .rw[j x a.1 a.2];exact⟨(d x a.1 a.2).1,i _ (d x a.1 a.2).2⟩
   .rw[k x a];exact g.whole x hx
  have t:=pJ hr hp i d q s c j p
  have hx:=vh_X hr (λv b=>(c v b).2) b
  have e:=(m (λv b=>(c v b).2)).2 ((z _ hx).2 t)
  have l:=uI hr o (λv b=>(c v b).2) (λx hx=>by
   by_cases a:W x/\G.own x=false
   .rw[g.fol x hx a.2];exact hb x _ hx a.2 (c x hx).1 (c x hx).2
   .rw[k x a];exact Av _) v b
  exact(m o).1 (by omega)
 .refine⟨λh=>?_,λh=>absurd h p⟩
  obtain⟨n,i,d,q,s⟩:=y.yours
  let f':Int->Int:=λx=>if Mn X W x/\G.own x=true then n x else f x
  have j:∀x,Mn X W x->G.own x=true->f' x=n x:=λx e l=>if_pos ⟨e,l⟩
  have k:∀x,¬(Mn X W x/\G.own x=true)->f' x=f x:=λx h=>if_neg h
  have c:Whole G X f':=λx hx=>by
   by_cases a:Mn X W x/\G.own x=true
   .rw[j x a.1 a.2];exact⟨(d x a.1 a.2).1,i _ (d x a.1 a.2).2⟩
   .rw[k x a];exact g.whole x hx
  have A:Fol G X σ f':=λx hx h=>by
   rw[k x (λa=>by rw[h]at a;exact absurd a.2 (by decide))]
   exact g.fol x hx h
  have t:=pJ hr hp i d q s c j (v:=v) ⟨b,p⟩
  have hx:=vh_X hr (λv b=>(c v b).2) b
  have e:=g.least hr c A b
  have l:=(m o).2 h
  have h3:=(z _ hx).1 ((m (λv b=>(c v b).2)).1 (by omega))
  rw[t]at h3
  cases h3
end
end
section
open Classical
theorem smI_congr {F F':Int->Int}:∀n:Nat,(∀v:Int,0<=v->v<n->F v=F' v)->smI F n=smI F' n
 |0,_=>rfl
 |n+1,h=>by
  show smI F n+F n=smI F' n+F' n
  rw[smI_congr n λv a b=>h v a (by push_cast;omega),h n (by omega) (by push_cast;omega)]
theorem qL (F F':Int->Int):∀n:Nat,smI (λv=>F v+F' v) n=smI F n+smI F' n
 |0=>rfl
 |n+1=>by
  show smI (λv=>F v+F' v) n+(F n+F' n)=smI F n+F n+(smI F' n+F' n)
  rw[qL F F' n]
  omega
theorem smI_zero:∀n:Nat,smI (λ_=>0) n=0
 |0=>rfl
 |n+1=>by
  show smI (λ_=>0) n+0=0
  rw[smI_zero n];rfl
theorem tN {a c:Int}:∀n:Nat,0<=a->a<n->smI (λx=>if x=a then c else 0) n=c
 |0,_,h=>absurd h (by omega)
 |n+1,h0,h1=>by
  show smI (λx=>if x=a then c else 0) n+(if(n:Int)=a then c else 0)=c
  by_cases b:(n:Int)=a
  .rw[if_pos b,smI_congr (F':=λ_=>0) n λv d e=>if_neg (by omega),smI_zero]
   omega
  .rw[if_neg b,tN n h0 (by push_cast at h1;omega)]
   omega
theorem pP (F:Int->Int){a:Int}(n:Nat) (h0:0<=a) (c:a<n):smI F n=F a+smI (λx=>if x=a then 0 else F x) n:=by
 have h:=qL (λx=>if x=a then F a else 0) (λx=>if x=a then 0 else F x) n
 rw[tN n h0 c]at h
 rw[← h]
 refine smI_congr n λv _ _=>?_
 by_cases b:v=a
 .rw[if_pos b,if_pos b,b];omega
 .rw[if_neg b,if_neg b];omega
theorem sc {F:Int->Int}{n:Nat}:∀b:VI,b.Nodup->(∀x∈b,0<=x/\x<n)->(b.map F).sum=smI (λx=>if x∈b then F x else 0) n
 | [],_,_=>by
  rw[smI_congr (F':=λ_=>0) n λv _ _=>if_neg (by simp),smI_zero];rfl
 |a::b,hn,hr=>by
  rw[List.nodup_cons]at hn
  obtain⟨d,e⟩:=hr a (zU ..)
  rw[yt,AN,sc b hn.2 λx hx=>hr x (zd _ hx),pP (λx=>if x∈a::b then F x else 0) n d e,if_pos (zU ..)]
  congr 1
  refine smI_congr n λv _ _=>?_
  by_cases c:v=a
  .rw[if_pos c,if_neg (by rw[c];exact hn.1)]
  .rw[if_neg c]
   by_cases h:v∈b
   .rw[if_pos h,if_pos (zd _ h)]
   .rw[if_neg h,if_neg (λf=>(yv.1 f).elim c h)]
def seg (f:Int->Int) (v:Int) (d:Nat):VI:=(Am d).map λa=>it f a v
theorem vn (f:Int->Int) (v:Int) (d:Nat):seg f v (d+1)=v::seg f (f v) d:=by
 unfold seg
 rw[List.range_succ_eq_map,yt,List.map_map]
 rfl
theorem seg_snoc (f:Int->Int) (v:Int) (d:Nat):seg f v (d+1)=seg f v d++[it f d v]:=by
 unfold seg
 rw[List.range_succ,List.map_append];rfl
theorem seg_len (f:Int->Int) (v:Int) (d:Nat):(seg f v d).length=d:=by simp[seg]
section
variable {r:RS}{X:Int->Prop}{f:Int->Int}
theorem Val.path {h:Int}(c:Cyc r f h):∀(d:Nat) (v:Int),it f d v=h->(∀b,b<d->it f b v≠h)->Val r f v h ((seg f v d).map (r.dd h)).sum d
 |0,v,a,_=>by
  have a:v=h:=a
  subst a
  exact .base c
 |d+1,v,a,hn=>by
  rw[vn,yt,AN,Int.add_comm]
  exact .step (hn 0 (by omega)) (Val.path c d (f v) a λb e=>hn (b+1) (by omega))
theorem uz {h:Int}:∀a:VI,(a.map (r.dd h)).sum=(a.map λx=>if r.rk h<r.rk x then r.sg x * r.W x else 0).sum-r.sg h * a.length
 | []=>by simp
 |x::a=>by
  rw[yt,AN,uz a,yt,AN,yr]
  push_cast
  rw[Int.mul_add]
  unfold RS.dd
  omega
noncomputable def vw (r:RS) (n:Nat) (h:Int) (O:VI) (w:Int):Int:=r.hd h * 100000000000000+smI (λx=>if x∈O then r.sg x * r.W x else 0) n-r.sg h * w
theorem nv_vw {n:Nat}{h v:Int}{d:Nat}{O:VI}(c:Cyc r f h) (e:it f d v=h) (hn:∀k,k<d->it f k v≠h) (l:(seg f v d).Nodup) (hr:∀x∈seg f v d,0<=x/\x<n) (g:∀x,x∈O↔x∈seg f v d/\r.rk h<r.rk x):nv r f v=vw r n h O d:=by
 have j:=Val.path c d v e hn
 unfold nv vw
 rw[j.is.1,j.is.2,uz,seg_len,sc _ l hr]
 have:smI (λx=>if x∈seg f v d then(if r.rk h<r.rk x then r.sg x * r.W x else 0) else 0) n=smI (λx=>if x∈O then r.sg x * r.W x else 0) n:=smI_congr n λx _ _=>by
  by_cases a:x∈seg f v d
  .rw[if_pos a]
   by_cases b:r.rk h<r.rk x
   .rw[if_pos b,if_pos ((g x).2 ⟨a,b⟩)]
   .rw[if_neg b,if_neg (λi=>b ((g x).1 i).2)]
  .rw[if_neg a,if_neg (λi=>a ((g x).1 i).1)]
 rw[this]
 omega
variable (hr:r.Ok X){n:Nat}(hX:∀v,X v↔0<=v/\v<n) (hn:n<=6)
include hr hX hn
omit hr hX hn in
theorem mX (hr:r.Ok X){x w b:Int}(h0:0<=w) (h:w<=b):r.sg x * w<=b/\ -b<=r.sg x * w:=by
 rcases hr.sg x with a|a <;> rw[a] <;> omega
theorem vw_hd {h a w w':Int}{A B:VI}(e:0<=w/\w<=12) (f:0<=w'/\w'<=12) (hl:r.hd a<r.hd h):vw r n a B w'<vw r n h A w:=by
 have c:∀O:VI,smI (λx=>if x∈O then r.sg x * r.W x else 0) n<=6442450944000/\ -6442450944000<=smI (λx=>if x∈O then r.sg x * r.W x else 0) n:=λO=>by
  have:=smI_bd (F:=λx=>if x∈O then r.sg x * r.W x else 0) (b:=1073741824000) n λv g i=>by
   have o:=RS.Ok.w1 (r:=r) v
   have d:=RS.Ok.w_le (hr.rk v ((hX v).2 ⟨g,i⟩))
   rw[show(1000 * 64 ^ 5:Int)=1073741824000 by decide]at d
   have:=mX hr (x:=v) (by omega) d
   split <;> omega
  have p:((n:Int) * 1073741824000)<=6 * 1073741824000:=AK (by omega) (by omega)
  omega
 have j:=c A
 have k:=c B
 have l:=mX hr (x:=h) e.1 e.2
 have m:=mX hr (x:=a) f.1 f.2
 unfold vw
 omega
theorem vw_over {h w w' x:Int}{A B:VI}(m:0<=w/\w<=12) (o:0<=w'/\w'<=12) (hx:X x) (l:decide (x∈A)≠decide (x∈B)) (hl:∀a,X a->a≠x->decide (a∈A)≠decide (a∈B)->r.rk a<r.rk x):((r.sg x=1↔x∈A)->vw r n h B w'<vw r n h A w)/\(¬(r.sg x=1↔x∈A)->vw r n h A w<vw r n h B w'):=by
 obtain⟨y,z⟩:=(hX x).1 hx
 have C:=mX hr (x:=h) m.1 m.2
 have D:=mX hr (x:=h) o.1 o.2
 have I:=RS.Ok.w1 (r:=r) x
 have k:smI (λa=>if a∈A then r.sg a * r.W a else 0) n=smI (λa=>if a∈B then r.sg a * r.W a else 0) n+smI (λa=>(if a∈A then r.sg a * r.W a else 0)-(if a∈B then r.sg a * r.W a else 0)) n:=by
  rw[← qL]
  exact smI_congr n λv _ _=>by omega
 rw[pP (λa=>(if a∈A then r.sg a * r.W a else 0)-(if a∈B then r.sg a * r.W a else 0)) n y z]at k
 have hb:=smI_bd (F:=λa=>if a=x then 0 else(if a∈A then r.sg a * r.W a else 0)-(if a∈B then r.sg a * r.W a else 0)) (b:=r.W x / 64) n λv t u=>by
  by_cases e:v=x
  .rw[if_pos e];omega
  .rw[if_neg e]
   by_cases g:decide (v∈A)=decide (v∈B)
   .have:v∈A↔v∈B:=by simpa using g
    by_cases c:v∈A
    .rw[if_pos c,if_pos (this.1 c)];omega
    .rw[if_neg c,if_neg (λd=>c (this.2 d))];omega
   .have H:=hl v ((hX v).2 ⟨t,u⟩) e g
    obtain⟨j,s⟩:∃j,r.rk x=j+1:=⟨r.rk x-1,by omega⟩
    have E:=RS.Ok.w1 (r:=r) v
    have p:=RS.Ok.w_le (r:=r) (x:=v) (k:=j) (by omega)
    have G:r.W x=64 * (1000 * 64 ^ j):=by unfold RS.W;rw[s,Int.pow_succ];omega
    have h3:=mX hr (x:=v) (by omega) p
    by_cases c:v∈A
    .have f:v∉B:=λd=>g (by simp[c,d])
     rw[if_pos c,if_neg f];omega
    .have f:v∈B:=zJ λd=>g (by simp[c,d])
     rw[if_neg c,if_pos f];omega
 have q:((n:Int) * (r.W x / 64))<=6 * (r.W x / 64):=AK (by omega) (by omega)
 generalize smI (λa=>if a=x then 0 else(if a∈A then r.sg a * r.W a else 0)-(if a∈B then r.sg a * r.W a else 0)) n=T at k hb
 generalize(n:Int) * (r.W x / 64)=U at hb q
 unfold vw
 rw[k]
 generalize smI (λa=>if a∈B then r.sg a * r.W a else 0) n=V
 by_cases c:x∈A
 .have f:x∉B:=λd=>l (by simp[c,d])
  rw[if_pos c,if_neg f]
  rcases hr.sg x with e|e <;> rw[e]
  .exact⟨λ_=>by omega,λd=>absurd ⟨λ_=>c,λ_=>rfl⟩ d⟩
  .exact⟨λd=>absurd (d.2 c) (by decide),λ_=>by omega⟩
 .have f:x∈B:=zJ λd=>l (by simp[c,d])
  rw[if_neg c,if_pos f]
  rcases hr.sg x with e|e <;> rw[e]
  .exact⟨λd=>absurd (d.1 rfl) c,λ_=>by omega⟩
  .exact⟨λ_=>by omega,λd=>absurd ⟨λi=>absurd i (by decide),λi=>absurd i c⟩ d⟩
omit hr hX hn in
theorem vw_way {h w w':Int}{A B:VI}(c:∀a:Int,0<=a->a<n->(a∈A↔a∈B)):vw r n h A w-vw r n h B w'=r.sg h * w'-r.sg h * w:=by
 have:smI (λa=>if a∈A then r.sg a * r.W a else 0) n=smI (λa=>if a∈B then r.sg a * r.W a else 0) n:=smI_congr n λa e f=>by
  have:=c a e f
  by_cases b:a∈A
  .rw[if_pos b,if_pos (this.1 b)]
  .rw[if_neg b,if_neg (λd=>b (this.2 d))]
 unfold vw
 rw[this]
 omega
end
end
end Go.Proofs.YtgbippnfaoedmaaGreatDoor.Par
namespace Go.Proofs.YtgbippnfaoedmaaGreatDoor
open Go Go.Wk Go.Proofs
section
open Classical
section
variable {g:Parity}{n:Nat}(h:GOk g n) (h0:0<n) (hn:n<=6) (hp:∀v:Int,0<=v->v<n->(gI g).pri v<=4) (hN:Aq (gI g) (Xn n))
omit hN
include h h0 hp in
theorem xo:∃a,cntM (cB g) n 0 (zf n [])=some (.inr a)/\a=tabL g n λ_=>0:=by
 have d:=qi h h0 hp
 have l:(odL g n).length<=2:=by unfold odL;split <;> split <;> simp
 have c:mE g n 0=zf ((odL g n).length+1) 0:=by
  unfold mE enc
  rw[if_pos (show 0<mM g n from Nat.mul_pos (by omega) (by omega)),List.replicate_succ]
  congr 1
  simp[List.map_const']
 obtain⟨a,i,j,k⟩:=fill (f:=cB g) (λ_=>mE g n 0) n (s0:=zf n []) (by simp) (λp a m o=>by
  unfold cB
  rw[d,Af,wr' (by omega) (by omega),show((odL g n).length:Int)+1=(((odL g n).length+1:Nat):Int) from rfl,bL (by omega) rfl,Af,c])
 exact⟨a,i,tP j λv b=>by
  obtain⟨e,rfl⟩:=bA b.1
  exact k e (by have:=b.2;omega)⟩
include h h0 hn hp hN
theorem vz {W:Int->Prop}{k:VI}(P:Par.Sol (gI g) (Xn n) false W) (O:Par.Ans (gI g) (Xn n) (wB W) (pkL k)):∃T,fx g=some (tabL g n T)/\∀v,Xn n v->(T v<mM g n↔W v):=by
 have hX:∀v,Xn n v->0<=v/\v<n:=λv a=>a
 have B:∀v,Xn n v->0<=(gI g).pri v/\(gI g).pri v<5:=λv a=>by
  have M:=(dD h a.1 a.2).2
  have N:=hp v a.1 a.2
  omega
 have y:=Par.muA_steady O (n:=n) hX B hN
 have t:∀v,Par.Rg (Xn n) (wB W) false v->Par.muA (gI g) (Xn n) (wB W) (pkL k) n v<mM g n:=λv a=>Par.muA_lt a
 have s:∀v,Par.muA (gI g) (Xn n) (wB W) (pkL k) n v<=mM g n:=λv=>by
  by_cases a:Par.Rg (Xn n) (wB W) false v
  .exact Nat.le_of_lt (t v a)
  .unfold Par.muA;rw[if_neg a];exact yE _
 generalize Par.muA (gI g) (Xn n) (wB W) (pkL k) n=mu at y t s
 have ak:mM g n<=49:=by
  have ai:=tj (g:=g) (n:=n) (q:=1)
  have aj:=tj (g:=g) (n:=n) (q:=3)
  exact Nat.mul_le_mul (show cQ g n 1+1<=7 by omega) (show cQ g n 3+1<=7 by omega)
 have I:∀T:Int->Nat,(∀v,Xn n v->T v<=mu v)->Par.smI (λv=>(T v:Int)) n<=294:=λT r=>by
  have:=(Par.smI_bd (F:=λv=>(T v:Int)) (b:=49) n λv ae af=>by
   have M:=r v ⟨ae,af⟩
   have N:=s v
   constructor <;> omega).1
  omega
 obtain⟨U,V,Y⟩:=bI (f:=df g) (λD (p:VV)=>∃T:Int->Nat,p=tabL g n T/\(∀v,Xn n v->T v<=mu v)/\(D:Int)<=Par.smI (λv=>(T v:Int)) n)
  (λp=>∃T:Int->Nat,p=tabL g n T/\(∀v,Xn n v->T v<=mu v)/\∀v,Xn n v->((gI g).own v=false->∃e,(gI g).E v e/\Xn n e/\mA g n v (T e)<=T v)/\((gI g).own v=true->∀e,(gI g).E v e->Xn n e->mA g n v (T e)<=T v)) (λ_=>False) 300 (λD p ⟨T,u,o,w⟩=>by
  subst u
  have r:∀v,Xn n v->T v<=mM g n:=λv a=>Ae (o v a) (s v)
  unfold df
  rcases se h h0 hn hp hN r with ⟨v,x,z,j,ac,ao,⟨e,K,A,L⟩,ad⟩|⟨z,j⟩
  .rw[z,Af,decide_eq_false (by have:=j.1;omega),cond_false,wX,ac,Af,jN T j,Af]
   obtain⟨an,E,ab⟩:=bj (xs:=tabL g n T) (i:=v) (mE g n x) j.1 (by rw[kH];exact j.2)
   rw[E,Af]
   have S:x<=mu v:=by
    cases l:(gI g).own v with
    |false=>
     obtain⟨c,H,ag,ah⟩:=(y v j).1 l
     exact Ae (Ae (ad l c H) (Par.ask_mono (o c ag))) ah
    |true=>rw[L];exact Ae (Par.ask_mono (o e A)) ((y v j).2 l e K A)
   have al:=Par.smI_lt (F:=λc=>(T c:Int)) (F':=λc=>((if c=v then x else T c:Nat):Int)) n (λc ap H=>by
    by_cases d:c=v
    .rw[if_pos d,d];omega
    .rw[if_neg d];exact Av _) v j.1 j.2 (by rw[if_pos rfl];omega)
   have C:∀c,Xn n c->(if c=v then x else T c)<=mu c:=λc m=>by
    by_cases d:c=v
    .rw[if_pos d,d];exact S
    .rw[if_neg d];exact o c m
   have hb:=I _ C
   refine⟨_,rfl,by omega,λc=>if c=v then x else T c,tP (by rw[ab,kH]) λc m=>?_,C,by push_cast;omega⟩
   rw[bp E]
   by_cases d:c=v
   .rw[if_pos d,if_pos d]
   .rw[if_neg d,if_neg d,jN T m]
  .rw[z,Af,decide_eq_true (by omega),cond_true]
   exact⟨_,rfl,T,rfl,o,j⟩) (2 ^ 64) 0 (tabL g n λ_=>0) (by omega) ⟨λ_=>0,rfl,λv _=>Nat.zero_le _,by
   have:=Par.smI_zero n
   show(0:Int)<=Par.smI (λ_=>0) n
   omega⟩ (by decide)
 obtain⟨am,Z,aa⟩:=xo h h0 hp
 unfold fx
 rw[h.lp,bL (by omega) rfl,Af,yZ,Z,Af,aU,aa,V,Af]
 match U,Y with
 |.inl p,⟨T,u,o,w⟩=>
  refine⟨T,by rw[u];rfl,λv a=>⟨λhl=>?_,λm=>?_⟩⟩
  .refine zJ λm=>?_
   have Q:=Par.steady_dom (Par.rW_ok (cQ g n 1) (cQ g n 3)) (G:=gI g) (X:=Xn n) (b:=5) B (t:=T) (λv a l _=>(w v a).1 l) (λv a l _ e R hx=>(w v a).2 l e R hx)
   exact Q.disj P.yours ⟨a,hl⟩ ⟨a,m⟩
  .exact Nat.lt_of_le_of_lt (o v a) (t v ⟨a,si.2 m⟩)
end
theorem oW {g:Parity}(hp:bC g=true) (h0:0<g.Prio.length) (hn:g.Prio.length<=6) (o:∀v:Int,0<=v->v<g.Prio.length->(gI g).pri v<=4){W:Int->Prop}{k:VI}(i:Solv g W k):fh g=some (wonL g.Prio.length W):=by
 have h:=GOk.of hp
 have hN:=eN h (gp hp)
 obtain⟨T,t,u⟩:=vz h h0 hn o hN i.sol i.ans
 generalize hnn:g.Prio.length=n at *
 obtain⟨b,q,r,s⟩:=ba (f:=db (tabL g n T)) (λa (b:VI)=>b.length=a/\∀v:Nat,v<a->b[v]? =some (b2i (decide (¬W (v:Int))))) n (s:=[]) ⟨rfl,λv c=>absurd c (by omega)⟩ (λa b w ⟨l,p⟩=>by
  have c:Xn n (a:Int):=⟨by omega,by omega⟩
  have hl:gF (mE g n (T (a:Int)))=some (decide (¬W (a:Int))):=by
   unfold mE
   rw[pD]
   congr 1
   exact decide_eq_decide.2 (not_congr (u _ c))
  unfold db
  rw[jN T c,Af,hl,Af]
  have j:∀x:Int,x=b2i (decide (¬W (a:Int)))->∃e,(some (.inr (.inr (b++[x]))):Option (VI⊕(VI⊕VI)))=some (.inr (.inr e))/\e.length=a+1/\∀v:Nat,v<a+1->e[v]? =some (b2i (decide (¬W (v:Int)))):=λx hx=>by
   refine⟨_,rfl,by simp[l],λv c=>?_⟩
   by_cases m:v<a
   .rw[yT (by omega)];exact p v m
   .have:v=a:=by omega
    subst this
    rw[yU (by omega),l,Nat.sub_self,hx];rfl
  by_cases d:W (a:Int)
  .rw[decide_eq_false (not_not_intro d),cond_false,app1 (by omega) rfl,Af]
   exact j 0 (by simp[d,b2i])
  .rw[decide_eq_true d,cond_true,app1 (by omega) rfl,Af]
   exact j 1 (by simp[d,b2i]))
 unfold fh
 rw[fv hp (by omega),Af,zG,cond_false,t,Af,kH,q,Af,aU,lb r s]
end
section
open Classical
theorem conW (l:VI) (v:Int):bs l v=some (decide (v∈l)):=by
 rw[iV]
 congr 1
 rw[Bool.eq_iff_iff]
 simp
def wtG (g:Parity) (v:Int):Int:=(gI g).pri v * 16+v
def rkG (g:Parity) (n:Nat) (v:Int):Nat:=(Am n).countP λa:Nat=>decide (wtG g (a:Int)<wtG g v)
def rsG (g:Parity) (n:Nat):Par.RS:=⟨rkG g n,λv=>if As ((gI g).pri v) then -1 else 1⟩
section
variable {g:Parity}{n:Nat}
theorem uW {x y:Int}(hx:Xn n x) (h:wtG g x<wtG g y):rkG g n x<rkG g n y:=by
 obtain⟨b,rfl⟩:=bA hx.1
 have:=hx.2
 exact Par.count_lt (x:=b) (p:=λa:Nat=>decide (wtG g (a:Int)<wtG g (b:Int))) (q:=λa:Nat=>decide (wtG g (a:Int)<wtG g y)) (λa c=>by
  rw[decide_eq_true_eq]at c ⊢
  omega) (zX.2 (by omega)) (decide_eq_true h) (decide_eq_false (Int.lt_irrefl _))
theorem qp {x y:Int}(hn:n<=16) (hx:Xn n x) (hy:Xn n y):(rkG g n x<rkG g n y↔wtG g x<wtG g y)/\(rkG g n x=rkG g n y->x=y):=by
 have d:=uW (g:=g) hx (y:=y)
 have b:=uW (g:=g) hy (y:=x)
 have a:wtG g x=wtG g y->x=y:=λa=>by
  unfold wtG at a
  have:=hx.1
  have:=hx.2
  have:=hy.1
  have:=hy.2
  omega
 refine⟨⟨λh=>?_,d⟩,λh=>a ?_⟩
 .refine zJ λhn=>?_
  by_cases c:wtG g x=wtG g y
  .rw[a c]at h;omega
  .have:=b (by omega);omega
 .refine zJ λhn=>?_
  by_cases c:wtG g x<wtG g y
  .have:=d c;omega
  .have:=b (by omega);omega
variable (h:GOk g n) (hn:n<=6)
omit h in
include hn in
theorem mT:(rsG g n).Ok (Xn n):=by
 refine⟨λv a=>⟨a.1,by have:=a.2;omega⟩,λv=>?_,λv a=>?_,λv j a e c=>(qp (g:=g) (by omega) a e).2 c⟩
 .show(if As ((gI g).pri v)=true then(-1:Int) else 1)=1\/(if As ((gI g).pri v)=true then(-1:Int) else 1)= -1
  split <;> simp
 .obtain⟨b,rfl⟩:=bA a.1
  have i:=a.2
  have:=Par.count_lt (x:=b) (l:=Am n) (p:=λf:Nat=>decide (wtG g (f:Int)<wtG g (b:Int))) (q:=λ_=>true) (λ_ _=>rfl) (zX.2 (by omega)) rfl (decide_eq_false (Int.lt_irrefl _))
  have d:=List.countP_le_length (p:=λ_:Nat=>true) (l:=Am n)
  rw[List.length_range]at d
  show(Am n).countP _<=5
  omega
include hn in
omit h in
theorem wC {x y:Int}(hx:Xn n x) (hy:Xn n y) (hl:(rsG g n).rk x<(rsG g n).rk y):(gI g).pri x<=(gI g).pri y:=by
 have:=(qp (g:=g) (by omega) hx hy).1.1 hl
 unfold wtG at this
 have:=hx.1
 have:=hx.2
 have:=hy.1
 have:=hy.2
 omega
theorem sS (x:Int):(rsG g n).sg x=1↔As ((gI g).pri x)=false:=by
 show(if _ then _ else _)=_↔_
 cases As ((gI g).pri x) <;> simp
include h hn
theorem iB {x y:Int}(hx:Xn n x) (hy:Xn n y):dZ g x y=some (decide ((rsG g n).rk y<(rsG g n).rk x)):=by
 have c:decide ((rsG g n).rk y<(rsG g n).rk x)=decide (wtG g y<wtG g x):=decide_eq_decide.2 (qp (g:=g) (by omega) hy hx).1
 rw[c]
 obtain⟨d,l⟩:=dD h hx.1 hx.2
 obtain⟨e,m⟩:=dD h hy.1 hy.2
 have f:=hx.1
 have i:=hx.2
 have j:=hy.1
 have k:=hy.2
 unfold dZ wtG
 rw[d,Af,e,Af]
 by_cases a:(gI g).pri y<(gI g).pri x
 .rw[decide_eq_true a,cond_true,Af,decide_eq_true (by omega)]
 .rw[decide_eq_false a,cond_false,Af,Af]
  by_cases b:(gI g).pri x=(gI g).pri y
  .rw[show((gI g).pri x==(gI g).pri y)=true by simpa using b,cond_true,Af,Af]
   congr 1
   rw[decide_eq_decide]
   omega
  .rw[show((gI g).pri x==(gI g).pri y)=false by simpa using b,cond_false,Af,Af,decide_eq_false (by omega)]
structure WOk (n:Nat) (w:Worth):Prop where
 hd:Xn n w.Head
 ov:w.Over.length<=1000
 w0:0<=w.Way/\w.Way<=12
noncomputable def vG (g:Parity) (n:Nat) (w:Worth):Int:=Par.vw (rsG g n) n w.Head w.Over w.Way
theorem mH {a b:Worth}(ha:WOk n a) (hb:WOk n b):iF g a b=some (decide (vG g n b<vG g n a)):=by
 have hr:=mT (g:=g) hn
 have hX:∀v,Xn n v↔0<=v/\v<n:=λv=>Iff.rfl
 obtain⟨N,T⟩:=dD h ha.hd.1 ha.hd.2
 obtain⟨O,U⟩:=dD h hb.hd.1 hb.hd.2
 have C:∀x,Xn n x->((Int.tmod ((gI g).pri x) 2==0)=decide ((rsG g n).sg x=1)):=λx hx=>by
  have E:=(dD h hx.1 hx.2).2
  rw[Bool.eq_iff_iff,decide_eq_true_eq,sS,AL E]
  unfold As
  simp only[beq_iff_eq,decide_eq_false_iff_not]
  omega
 unfold iF
 rw[N,Af,O,Af,C _ ha.hd,C _ hb.hd]
 by_cases u:a.Head=b.Head
 .rw[show(a.Head !=b.Head)=false by simp[u],cond_false]
  have I:lB g.Arena=some (n:Int):=by
   unfold lB
   rw[h.lo]
  have H:rng (n:Int)=some ():=by
   unfold rng
   rw[if_pos (by omega)]
  rw[I,Af,H,Af,show zq ((n:Int)-0)=n by omega]
  obtain⟨e,Q,R⟩:=ba (f:=gC g a b) (λj (e:Int×Bool)=>(e.1<0/\∀c:Int,0<=c->c<j->decide (c∈a.Over)=decide (c∈b.Over))\/(Xn n e.1/\decide (e.1∈a.Over)≠decide (e.1∈b.Over)/\e.2=decide (e.1∈a.Over)/\∀c:Int,0<=c->c<j->c≠e.1->decide (c∈a.Over)≠decide (c∈b.Over)->(rsG g n).rk c<(rsG g n).rk e.1)) n (s:=(-1,false)) (.inl ⟨by decide,λc l k=>by omega⟩) (λj e S F=>by
   have z:Xn n (j:Int):=⟨by omega,by omega⟩
   unfold gC
   rw[conW,Af,conW,Af]
   by_cases s:decide ((j:Int)∈a.Over)=decide ((j:Int)∈b.Over)
   .rw[show(decide ((j:Int)∈a.Over) !=decide ((j:Int)∈b.Over))=false by rw[s];simp,cond_false,Af,cond_false,Af]
    refine⟨_,rfl,?_⟩
    rcases F with ⟨i,m⟩|⟨i,m,y,t⟩
    .refine .inl ⟨i,λc l k=>?_⟩
     by_cases d:c=(j:Int)
     .rw[d];exact s
     .exact m c l (by push_cast at k;omega)
    .refine .inr ⟨i,m,y,λc l k p q=>?_⟩
     by_cases d:c=(j:Int)
     .rw[d]at q;exact absurd s q
     .exact t c l (by push_cast at k;omega) p q
   .rw[show(decide ((j:Int)∈a.Over) !=decide ((j:Int)∈b.Over))=true by simpa using s,cond_true]
    rcases F with ⟨i,m⟩|⟨i,m,y,t⟩
    .rw[decide_eq_true i,cond_true,Af,Af,cond_true,Af]
     refine⟨_,rfl,.inr ⟨z,s,rfl,λc l k p q=>?_⟩⟩
     exact absurd (m c l (by push_cast at k;dsimp only at p;omega)) q
    .rw[decide_eq_false (by have:=i.1;omega),cond_false,iB h hn z i,Af,Af,Af]
     by_cases hl:(rsG g n).rk e.1<(rsG g n).rk (j:Int)
     .rw[decide_eq_true hl,cond_true,Af]
      refine⟨_,rfl,.inr ⟨z,s,rfl,λc l k p q=>?_⟩⟩
      dsimp only at p ⊢
      by_cases d:c=e.1
      .rw[d];exact hl
      .have:=t c l (by push_cast at k;omega) d q
       omega
     .rw[decide_eq_false hl,cond_false,Af]
      refine⟨_,rfl,.inr ⟨i,m,y,λc l k p q=>?_⟩⟩
      dsimp only at p ⊢
      by_cases d:c=(j:Int)
      .have G:(rsG g n).rk e.1≠(rsG g n).rk (j:Int):=λo=>p (by rw[d];exact(hr.inj _ _ i z o).symm)
       rw[d];omega
      .exact t c l (by push_cast at k;omega) p q)
  rw[Q,Af,aU]
  unfold vG
  rcases R with ⟨i,m⟩|⟨i,m,y,t⟩
  .rw[decide_eq_false (by omega),cond_false]
   have:=Par.vw_way (r:=rsG g n) (n:=n) (h:=a.Head) (w:=a.Way) (w':=b.Way) (A:=a.Over) (B:=b.Over) λc l k=>by simpa using m c l k
   rw[← u]
   rcases hr.sg a.Head with d|d
   .rw[decide_eq_true d,cond_true]
    rw[d]at this
    congr 1
    rw[decide_eq_decide]
    omega
   .rw[decide_eq_false (by rw[d];decide),cond_false]
    rw[d]at this
    congr 1
    rw[decide_eq_decide]
    omega
  .rw[decide_eq_true i.1,cond_true]
   obtain⟨P,V⟩:=dD h i.1 i.2
   rw[P,Af,C _ i,y]
   obtain⟨L,M⟩:=Par.vw_over hr hX hn (h:=a.Head) ha.w0 hb.w0 i m λc hy k p=>t c hy.1 hy.2 k p
   rw[← u]
   congr 1
   by_cases o:(rsG g n).sg e.1=1↔e.1∈a.Over
   .rw[decide_eq_true (L o)]
    have:decide ((rsG g n).sg e.1=1)=decide (e.1∈a.Over):=decide_eq_decide.2 o
    rw[this];simp
   .have E:=M o
    rw[decide_eq_false (show ¬Par.vw (rsG g n) n a.Head b.Over b.Way<Par.vw (rsG g n) n a.Head a.Over a.Way by omega)]
    have:¬decide ((rsG g n).sg e.1=1)=decide (e.1∈a.Over):=λd=>o (decide_eq_decide.1 d)
    simpa using this
 .rw[show(a.Head !=b.Head)=true by simp[u],cond_true]
  have G:(rsG g n).hd a.Head≠(rsG g n).hd b.Head:=λo=>u (Par.hd_inj hr ha.hd hb.hd o)
  have K:decide (vG g n b<vG g n a)=decide ((rsG g n).hd b.Head<(rsG g n).hd a.Head):=by
   rw[decide_eq_decide]
   unfold vG
   constructor
   .intro o
    refine zJ λhc=>?_
    have:=Par.vw_hd hr hX hn (A:=b.Over) (B:=a.Over) hb.w0 ha.w0 (show(rsG g n).hd a.Head<(rsG g n).hd b.Head by omega)
    omega
   .intro o
    exact Par.vw_hd hr hX hn ha.w0 hb.w0 o
  rw[K]
  unfold Par.RS.hd
  rcases hr.sg a.Head with d|d <;> rcases hr.sg b.Head with D|D <;> rw[d,D]
  .rw[show(decide ((1:Int)=1) !=decide ((1:Int)=1))=false from rfl,cond_false,show decide ((1:Int)=1)=true from rfl,cond_true,iB h hn ha.hd hb.hd,Af]
   congr 1
   rw[decide_eq_decide]
   omega
  .rw[show(decide ((1:Int)=1) !=decide ((-1:Int)=1))=true from rfl,cond_true,show decide ((1:Int)=1)=true from rfl,decide_eq_true (by omega)]
  .rw[show(decide ((-1:Int)=1) !=decide ((1:Int)=1))=true from rfl,cond_true,show decide ((-1:Int)=1)=false from rfl,decide_eq_false (by omega)]
  .rw[show(decide ((-1:Int)=1) !=decide ((-1:Int)=1))=false from rfl,cond_false,show decide ((-1:Int)=1)=false from rfl,cond_false,iB h hn hb.hd ha.hd,Af]
   congr 1
   rw[decide_eq_decide]
   omega
end
end
section
open Classical
theorem qK {f:Int->Int}{v:Int}{j t:Nat}(h:t<j):(Par.seg f v j)[t]? =some (Par.it f t v):=by
 unfold Par.seg
 rw[List.getElem?_map,List.getElem?_range h];rfl
theorem tM {f:Int->Int}{v x:Int}{j:Nat}:x∈Par.seg f v j↔∃a,a<j/\Par.it f a v=x:=by
 unfold Par.seg
 rw[AA]
 exact⟨λ⟨a,b,c⟩=>⟨a,zX.1 b,c⟩,λ⟨a,b,c⟩=>⟨a,zX.2 b,c⟩⟩
theorem vo {f:Int->Int}{v:Int}{j t:Nat}(h:t<=j):(Par.seg f v j).take t=Par.seg f v t:=by
 unfold Par.seg
 rw[← List.map_take,List.take_range,Nat.min_eq_left h]
section
variable {g:Parity}{n:Nat}(h:GOk g n) (hn:n<=6){p:VI}(hl:p.length=n) (hc:∀v,Xn n v->Xn n (rk p v))
include h hn hl hc
omit h in
theorem wq {v:Int}(t:Xn n v):∃c a:Nat,c<a/\a<=n/\Par.it (rk p) c v=Par.it (rk p) a v/\(Par.seg (rk p) v a).Nodup/\jv p v=some ⟨(Par.seg (rk p) v a).take c,(Par.seg (rk p) v a).drop c⟩:=by
 have hX:∀i,Xn n (Par.it (rk p) i v):=λi=>Par.it_X hc i t
 have r:∀a,(Par.seg (rk p) v a).Nodup->a<=n:=λa k=>by
  have:=cF n _ k λx hx=>by
   obtain⟨i,_,rfl⟩:=tM.1 hx
   exact hX i
  rwa [Par.seg_len]at this
 obtain⟨u,w,y⟩:=bI (f:=gT p) (λa (g:Int×VI)=>g=(Par.it (rk p) a v,Par.seg (rk p) v a)/\(Par.seg (rk p) v a).Nodup) (λ_=>False) (λg=>∃a,g=(Par.it (rk p) a v,Par.seg (rk p) v a)/\(Par.seg (rk p) v a).Nodup/\Par.it (rk p) a v∈Par.seg (rk p) v a) 7 (λa g ⟨m,e⟩=>by
  subst m
  have k:=r a e
  unfold gT
  dsimp only
  rw[conW,Af]
  by_cases l:Par.it (rk p) a v∈Par.seg (rk p) v a
  .rw[decide_eq_true l,zG,cond_false]
   exact⟨_,rfl,a,rfl,e,l⟩
  .rw[decide_eq_false l,Bool.not_false,cond_true,app1 (by rw[Par.seg_len];omega) rfl,Af,gn (R:=p) (hX a).1 (by rw[hl];exact(hX a).2),Af]
   refine⟨_,rfl,by omega,by rw[Par.it_one,Par.seg_snoc],?_⟩
   rw[Par.seg_snoc,List.nodup_append]
   refine⟨e,by simp,λC ha b hb d=>?_⟩
   rw[yw]at hb
   exact l (by rw[← hb,← d];exact ha)) (2 ^ 64) 0 (v,[]) (by omega) ⟨rfl,by simp[Par.seg]⟩ (by decide)
 match u,y with
 |.inr g,⟨a,m,e,z⟩=>
  subst m
  have k:=r a e
  cases d:(Par.seg (rk p) v a).findIdx? (λx=>Par.it (rk p) a v==x) with
  |none=>
   rw[List.findIdx?_eq_none_iff]at d
   have:=d _ z
   simp at this
  |some c=>
   obtain⟨j,o,_⟩:=List.findIdx?_eq_some_iff_getElem.1 d
   have q:=nx j
   rw[Par.seg_len]at j
   rw[qK j]at q
   have s:Par.it (rk p) a v=Par.it (rk p) c v:=by
    rw[← Option.some.inj q]at o
    simpa using o
   refine⟨c,a,j,k,s.symm,e,?_⟩
   unfold jv
   rw[w,Af,aU]
   dsimp only
   rw[fc,d,Af]
   dsimp only
   unfold subS
   rw[if_pos ⟨by omega,by omega,by rw[Par.seg_len];omega⟩,Af,if_pos ⟨by omega,by rw[Par.seg_len];omega,by omega⟩,Af]
   have A:((c:Int)).toNat=c:=by omega
   have B:(((Par.seg (rk p) v a).length:Nat):Int).toNat=(Par.seg (rk p) v a).length:=by omega
   rw[A,B,List.take_length]
   rfl
theorem vE {v:Int}(L:Xn n v):∃N B,jv p v=some N/\jA g N=some B/\WOk n B/\vG g n B=Par.nv (rsG g n) (rk p) v/\B.Head=Par.vh (rsG g n) (rk p) v:=by
 obtain⟨b,i,ai,aj,W,Y,Z⟩:=wq hn hl hc L
 have hr:=mT (g:=g) hn
 have hX:∀a,Xn n (Par.it (rk p) a v):=λa=>Par.it_X hc a L
 have I:((Par.seg (rk p) v i).drop b).length=i-b:=by rw[List.length_drop,Par.seg_len]
 have F:∀a,a<i-b->((Par.seg (rk p) v i).drop b)[a]? =some (Par.it (rk p) (b+a) v):=λa r=>by
  rw[List.getElem?_drop,qK (by omega)]
 obtain⟨c,Q,⟨o,al,A⟩,R⟩:=ba (f:=fN g ⟨(Par.seg (rk p) v i).take b,(Par.seg (rk p) v i).drop b⟩) (λe (j:Int)=>(∃a,a<i-b/\Par.it (rk p) (b+a) v=j)/\∀a,a<e->(rsG g n).rk (Par.it (rk p) (b+a) v)<=(rsG g n).rk j) (i-b) (s:=Par.it (rk p) b v) ⟨⟨0,by omega,rfl⟩,λa r=>absurd r (by omega)⟩ (λe j q ⟨⟨a,t,m⟩,z⟩=>by
  have aa:Xn n j:=by rw[← m];exact hX _
  unfold fN
  dsimp only
  rw[aS,F e q,Af,iB h hn (hX _) aa,Af]
  by_cases k:(rsG g n).rk j<(rsG g n).rk (Par.it (rk p) (b+e) v)
  .rw[decide_eq_true k,cond_true,Af]
   refine⟨_,rfl,⟨e,q,rfl⟩,λu ab=>?_⟩
   by_cases l:u=e
   .rw[l];exact yE _
   .have:=z u (by omega);omega
  .rw[decide_eq_false k,cond_false,Af]
   refine⟨_,rfl,⟨a,t,m⟩,λu ab=>?_⟩
   by_cases l:u=e
   .rw[l];omega
   .exact z u (by omega))
 have w:Xn n c:=by rw[← A];exact hX _
 have H:Par.Cyc (rsG g n) (rk p) c:=by
  have G:Par.it (rk p) (i-b) (Par.it (rk p) b v)=Par.it (rk p) b v:=by rw[← Par.it_add,show b+(i-b)=i by omega,W]
  refine⟨⟨i-b,by omega,by omega,?_⟩,λa=>?_⟩
  .rw[← A,← Par.it_add,show b+o+(i-b)=b+(i-b)+o by omega,Par.it_add,Par.it_add,G,← Par.it_add]
  .have l:Par.it (rk p) a c=Par.it (rk p) (b+(o+a) % (i-b)) v:=by
    rw[← A,← Par.it_add,show b+o+a=b+(o+a) by omega,Par.it_add,Par.it_mod G,← Par.it_add]
   have X:=R ((o+a) % (i-b)) (AP _ (by omega))
   rw[← l]at X
   by_cases s:(rsG g n).rk (Par.it (rk p) a c)=(rsG g n).rk c
   .exact .inl (hr.inj _ _ (Par.it_X hc a w) w s)
   .exact .inr (by omega)
 obtain⟨P,S,C⟩:=lP (f:=fO g c (Par.seg (rk p) v i)) (λe (j:VI×Int)=>j=((Par.seg (rk p) v e).filter λx=>decide ((rsG g n).rk c<(rsG g n).rk x),(e:Int))/\∀a,a<e->Par.it (rk p) a v≠c) (λ_=>False) (λj=>∃d,d<i/\j=((Par.seg (rk p) v d).filter λx=>decide ((rsG g n).rk c<(rsG g n).rk x),(d:Int))/\Par.it (rk p) d v=c/\∀a,a<d->Par.it (rk p) a v≠c) i (s:=([],0)) ⟨by simp[Par.seg],λa r=>absurd r (by omega)⟩ (λe j q ⟨t,m⟩=>by
  subst t
  unfold fO
  rw[aS,qK q,Af]
  by_cases k:Par.it (rk p) e v=c
  .rw[show(Par.it (rk p) e v==c)=true by simp[k],cond_true]
   exact⟨_,rfl,e,q,rfl,k,m⟩
  .rw[show(Par.it (rk p) e v==c)=false by simp[k],cond_false,iB h hn (hX e) w,Af]
   have D:((Par.seg (rk p) v e).filter λx=>decide ((rsG g n).rk c<(rsG g n).rk x)).length<=e:=Ae (List.length_filter_le _ _) (by rw[Par.seg_len];omega)
   have K:∀a,a<e+1->Par.it (rk p) a v≠c:=λa r=>by
    by_cases l:a=e
    .rw[l];exact k
    .exact m a (by omega)
   have M:zr .i64 ((e:Int)+1)=((e+1:Nat):Int):=by rw[wr' (by omega) (by omega)];rfl
   by_cases y:(rsG g n).rk c<(rsG g n).rk (Par.it (rk p) e v)
   .rw[decide_eq_true y,cond_true,app1 (by dsimp only;omega) rfl,Af,Af]
    refine⟨_,rfl,?_,K⟩
    dsimp only
    rw[Par.seg_snoc,List.filter_append,List.filter_cons_of_pos (by exact decide_eq_true y),M]
    rfl
   .rw[decide_eq_false y,cond_false,Af]
    refine⟨_,rfl,?_,K⟩
    dsimp only
    rw[Par.seg_snoc,List.filter_append,List.filter_cons_of_neg (by rw[decide_eq_false y];decide),M]
    simp)
 obtain⟨d,ag,T,E,U⟩:∃d,d<i/\P= .inr ((Par.seg (rk p) v d).filter λx=>decide ((rsG g n).rk c<(rsG g n).rk x),(d:Int))/\Par.it (rk p) d v=c/\∀a,a<d->Par.it (rk p) a v≠c:=by
  match P,C with
  |.inr j,C=>
   rcases C with ⟨_,s⟩|⟨d,t,m,z⟩
   .exact absurd A (s _ (by omega))
   .exact⟨d,t,by rw[m],z⟩
 subst T
 have D:((Par.seg (rk p) v d).filter λx=>decide ((rsG g n).rk c<(rsG g n).rk x)).length<=d:=Ae (List.length_filter_le _ _) (by rw[Par.seg_len];omega)
 obtain⟨O,ad,ae,ak⟩:∃O,bH ((Par.seg (rk p) v d).filter λx=>decide ((rsG g n).rk c<(rsG g n).rk x))=some O/\(∀x,x∈O↔x∈Par.seg (rk p) v d/\(rsG g n).rk c<(rsG g n).rk x)/\O.length<=d:=by
  unfold bH
  by_cases k:0<((Par.seg (rk p) v d).filter λx=>decide ((rsG g n).rk c<(rsG g n).rk x)).length
  .rw[if_pos ⟨k,by omega⟩]
   refine⟨_,rfl,λx=>?_,by rw[List.length_mergeSort];exact D⟩
   rw[List.mem_mergeSort,zV,decide_eq_true_eq]
  .rw[if_neg (λs=>k s.1),if_pos (by omega)]
   refine⟨_,rfl,λx=>?_,D⟩
   rw[zV,decide_eq_true_eq]
 have ac:Par.nv (rsG g n) (rk p) v=Par.vw (rsG g n) n c O d:=Par.nv_vw H E U (by
  have:=Y.sublist (List.take_sublist d _)
  rwa [vo (by omega)]at this) (λx hx=>by
  obtain⟨a,_,rfl⟩:=tM.1 hx
  exact hX a) ae
 obtain⟨af,ah,_,V⟩:=Par.Val.mk' H d (v:=v) E
 refine⟨_,⟨c,O,d⟩,Z,?_,⟨w,by dsimp only;omega,by dsimp only;omega⟩,ac.symm,V.is.1.symm⟩
 unfold jA
 dsimp only
 rw[show(0:Int)=((0:Nat):Int) from rfl,aS,F 0 (by omega),Af,I]
 show zm (cntM _ (i-b) ((0:Nat):Int) (Par.it (rk p) b v)) _=_
 rw[show((0:Nat):Int)=0 from rfl,Q,Af,aU,appL (by rw[List.length_nil,y8,Par.seg_len];omega) rfl,Af,zz,appL (by rw[I,y8,Par.seg_len];omega) rfl,Af,List.take_append_drop,Par.seg_len,S,Af,aU]
 dsimp only
 rw[ad];rfl
end
end
section
open Classical
def prR (g:Parity):Nat->Nat
 |0=>1
 |j+1=>if ownL g.Arena.Owner (j:Int) then prR g j * (bm g.Arena (j:Int)).length else prR g j
def repK (g:Parity) (k:Nat) (v:Nat):Int:=((bm g.Arena (v:Int))[k / prR g v % (bm g.Arena (v:Int)).length]?).getD (-1)
structure PlOk (g:Parity) (n:Nat) (p:VI):Prop where
 len:p.length=n
 mine:∀v,Xn n v->(gI g).own v=false->(gI g).E v (rk p v)/\Xn n (rk p v)
 yours:∀v,Xn n v->(gI g).own v=true->rk p v= -1
section
variable {g:Parity}{n:Nat}(h:GOk g n) (h0:0<n) (hn:n<=6) (hN:Aq (gI g) (Xn n)) (h3:∀v r,idx g.Arena.Next v=some r->r.length<=3)
include h
theorem jY {v:Int}(a:Xn n v):idx g.Arena.Next v=some (bm g.Arena v)/\∀b∈bm g.Arena v,Xn n b:=by
 obtain⟨r,hr⟩:=bg (xs:=g.Arena.Next) a.1 (by have:=h.ln;have:=a.2;omega)
 rw[c8 hr]
 exact⟨hr,(h.row v r hr).2.2⟩
theorem qj {v:Int}(e:Xn n v):∃a,idx g.Arena.Owner v=some a/\(a=0\/a=1)/\((a==1)=(gI g).own v)/\((a !=0)=(gI g).own v):=by
 obtain⟨a,b⟩:=bg (xs:=g.Arena.Owner) e.1 (by have:=h.lo;have:=e.2;omega)
 have d:=h.ow v a b
 have c:(gI g).own v=(a==1):=by
  show ownL g.Arena.Owner v=_
  unfold ownL;rw[b]
 refine⟨a,b,d,c.symm,?_⟩
 rw[c]
 rcases d with rfl|rfl <;> rfl
include hN
omit h in
theorem kU {v:Int}(b:Xn n v):0<(bm g.Arena v).length:=by
 obtain⟨c,a,_⟩:=hN v b
 have a:c∈bm g.Arena v:=a
 exact List.length_pos_of_mem a
omit h in
theorem mr:∀a:Nat,a<=n->0<prR g a
 |0,_=>Nat.one_pos
 |a+1,hj=>by
  have:=mr a (by omega)
  have hr:=kU hN (v:=(a:Int)) ⟨by omega,by omega⟩
  unfold prR
  split
  .exact Nat.mul_pos this hr
  .exact this
omit hN in
include h3 in
theorem uT:∀a:Nat,a<=n->prR g a<=3 ^ a
 |0,_=>yE _
 |a+1,hj=>by
  have b:=uT a (by omega)
  have c:=h3 _ _ (jY h (v:=(a:Int)) ⟨by omega,by omega⟩).1
  unfold prR
  rw[Nat.pow_succ]
  split
  .exact Nat.mul_le_mul b c
  .omega
include hn h3
omit hN in
theorem qn {j:Nat}(a:j<=n):prR g j<=729:=Ae (uT h h3 j a) (Ae (Nat.pow_le_pow_right (by omega) (show j<=6 by omega)) (by decide))
omit hN in
theorem lE:dO g=some (prR g n:Int):=by
 obtain⟨c,m,o⟩:=ba (f:=dP g) (λa (c:Int)=>c=(prR g a:Int)) n (s:=1) rfl (λa c r j=>by
  subst j
  have e:Xn n (a:Int):=⟨by omega,by omega⟩
  obtain⟨s,k,t,l,u⟩:=qj h e
  have p:=qn h hn h3 (j:=a) (by omega)
  have q:=qn h hn h3 (j:=a+1) (by omega)
  unfold dP
  rw[(jY h e).1,Af,k,Af,l]
  have b:prR g (a+1)=if(gI g).own (a:Int) then prR g a * (bm g.Arena (a:Int)).length else prR g a:=rfl
  cases d:(gI g).own (a:Int) with
  |true=>
   rw[d,if_pos rfl]at b
   have i:(prR g a:Int) * ((bm g.Arena (a:Int)).length:Int)=((prR g (a+1):Nat):Int):=by rw[b];push_cast;rfl
   rw[cond_true,i,wr' (by omega) (by omega),decide_eq_false (by omega),cond_false,Af,aU]
   exact⟨_,rfl,rfl⟩
  |false=>
   rw[d,if_neg (by decide)]at b
   rw[cond_false,Af,aU]
   exact⟨_,rfl,by rw[b]⟩)
 unfold dO
 rw[h.ln,m,Af,aU,o]
include hN
omit hn h3 in
theorem oR {p:VI}(hp:PlOk g n p){k:Nat}(W:k<1000):∃e b,cntM (dA g) n 0 ((k:Int),zf n (-1))=some (.inr e)/\cntM (dB e) n 0 p=some (.inr b)/\b.length=n/\∀v:Nat,v<n->rk b (v:Int)=if(gI g).own (v:Int) then repK g k v else rk p (v:Int):=by
 have K:=hp.len
 obtain⟨⟨C,e⟩,T,ad,U,E⟩:=ba (f:=dA g) (λa (e:Int×VI)=>e.1=((k / prR g a:Nat):Int)/\e.2.length=n/\∀v:Nat,v<n->idx e.2 (v:Int)=some (if v<a/\(gI g).own (v:Int)=true then repK g k v else -1)) n (s:=((k:Int),zf n (-1))) ⟨by simp[prR],by simp,λv c=>by
  rw[if_neg (by omega),aS,zP,if_pos c]⟩ (λa e q ⟨w,m,o⟩=>by
  obtain⟨C,e⟩:=e
  dsimp only at w m o
  subst w
  have c:Xn n (a:Int):=⟨by omega,by omega⟩
  obtain⟨Y,Q,Z,S,aa⟩:=qj h c
  have z:=kU hN c
  have X:=mr hN a (by omega)
  have I:k / prR g a<=k:=Nat.div_le_self _ _
  have l:prR g (a+1)=if(gI g).own (a:Int) then prR g a * (bm g.Arena (a:Int)).length else prR g a:=rfl
  unfold dA
  dsimp only
  rw[(jY h c).1,Af,Q,Af,S]
  cases j:(gI g).own (a:Int) with
  |true=>
   rw[j,if_pos rfl]at l
   have B:nz ((bm g.Arena (a:Int)).length:Int)=some ():=by
    unfold nz;rw[if_neg (by omega)]
   have L:Int.tmod ((k / prR g a:Nat):Int) ((bm g.Arena (a:Int)).length:Int)=((k / prR g a % (bm g.Arena (a:Int)).length:Nat):Int):=rfl
   have G:Int.tdiv ((k / prR g a:Nat):Int) ((bm g.Arena (a:Int)).length:Int)=((k / prR g a / (bm g.Arena (a:Int)).length:Nat):Int):=rfl
   have t:k / prR g a % (bm g.Arena (a:Int)).length<(bm g.Arena (a:Int)).length:=AP _ z
   have H:(bm g.Arena (a:Int))[k / prR g a % (bm g.Arena (a:Int)).length]? =some (repK g k a):=by
    unfold repK
    rw[nx t];rfl
   obtain⟨ac,s,V⟩:=bj (xs:=e) (i:=(a:Int)) (repK g k a) (by omega) (by omega)
   have P:∀x:Nat,x<=k->zr .i64 (x:Int)=(x:Int):=λx B=>wr' (by omega) (by omega)
   have F:k / prR g a / (bm g.Arena (a:Int)).length<=k:=Ae (Nat.div_le_self _ _) I
   rw[cond_true,B,Af,L,aS,H,Af,o a q,Af,s,Af,Af,G,P _ F,Af]
   refine⟨_,rfl,?_,by dsimp only;omega,λv r=>?_⟩
   .dsimp only
    rw[l,Nat.div_div_eq_div_mul]
   .dsimp only
    rw[bp s]
    by_cases y:v=a
    .subst y
     rw[if_pos rfl,if_pos ⟨by omega,j⟩]
    .rw[if_neg (by omega),o v r]
     congr 1
     by_cases d:v<a/\(gI g).own (v:Int)=true
     .rw[if_pos d,if_pos ⟨by omega,d.2⟩]
     .rw[if_neg d,if_neg (λb=>d ⟨by omega,b.2⟩)]
  |false=>
   rw[j,if_neg (by decide)]at l
   rw[cond_false,Af]
   refine⟨_,rfl,by dsimp only;rw[l],m,λv r=>?_⟩
   dsimp only
   rw[o v r]
   congr 1
   by_cases d:v<a/\(gI g).own (v:Int)=true
   .rw[if_pos d,if_pos ⟨by omega,d.2⟩]
   .rw[if_neg d,if_neg (λb=>(Nat.lt_or_ge v a).elim (λu=>d ⟨u,b.2⟩) λu=>by
     have m:=b.2
     rw[show v=a by omega,j]at m
     cases m)])
 dsimp only at U E
 obtain⟨b,w,m,o⟩:=ba (f:=dB (C,e)) (λa (b:VI)=>b.length=n/\∀v:Nat,v<n->rk b (v:Int)=if v<a/\(gI g).own (v:Int)=true then repK g k v else rk p (v:Int)) n (s:=p) ⟨K,λv c=>by rw[if_neg (by omega)]⟩ (λa b q ⟨ab,D⟩=>by
  have c:Xn n (a:Int):=⟨by omega,by omega⟩
  have N:=E a q
  have M:=gn (R:=b) (v:=(a:Int)) (by omega) (by omega)
  have A:=D a q
  rw[if_neg (by omega)]at A
  unfold dB
  dsimp only
  rw[N,Af,M,Af,Af,A]
  have O:(if rk p (a:Int)<(if a<n/\(gI g).own (a:Int)=true then repK g k a else -1) then(if a<n/\(gI g).own (a:Int)=true then repK g k a else -1) else rk p (a:Int))=if(gI g).own (a:Int)=true then repK g k a else rk p (a:Int):=by
   cases j:(gI g).own (a:Int) with
   |true=>
    rw[if_pos (⟨q,rfl⟩:a<n/\true=true),if_pos rfl,hp.yours _ c j]
    have z:=kU hN c
    have t:k / prR g a % (bm g.Arena (a:Int)).length<(bm g.Arena (a:Int)).length:=AP _ z
    have:0<=repK g k a:=by
     unfold repK
     rw[nx t]
     exact((jY h c).2 _ (List.getElem_mem t)).1
    rw[if_pos (by omega)]
   |false=>
    have:=(hp.mine _ c j).2.1
    rw[if_neg (λb:a<n/\false=true=>by cases b.2),if_neg (show ¬rk p (a:Int) < -1 by omega),if_neg (show ¬false=true by decide)]
  rw[O]
  obtain⟨u,s,V⟩:=bj (xs:=b) (i:=(a:Int)) (if(gI g).own (a:Int)=true then repK g k a else rk p (a:Int)) (by omega) (by omega)
  rw[s,Af]
  refine⟨_,rfl,by omega,λv r=>?_⟩
  have:rk u (v:Int)=if(v:Int)=(a:Int) then(if(gI g).own (a:Int)=true then repK g k a else rk p (a:Int)) else rk b (v:Int):=by
   unfold rk
   rw[bp s]
   by_cases l:(v:Int)=(a:Int)
   .rw[if_pos l,if_pos l];rfl
   .rw[if_neg l,if_neg l]
  rw[this]
  by_cases y:v=a
  .subst y
   rw[if_pos rfl]
   cases j:(gI g).own (v:Int) with
   |true=>rw[if_pos rfl,if_pos ⟨by omega,rfl⟩]
   |false=>rw[if_neg (by decide),if_neg (λb=>by cases b.2)]
  .rw[if_neg (by omega),D v r]
   by_cases d:v<a/\(gI g).own (v:Int)=true
   .rw[if_pos d,if_pos ⟨by omega,d.2⟩]
   .rw[if_neg d,if_neg (λb=>d ⟨by omega,b.2⟩)])
 refine⟨_,b,T,w,m,λv c=>?_⟩
 rw[o v c]
 cases j:(gI g).own (v:Int) with
 |true=>rw[if_pos ⟨c,rfl⟩,if_pos rfl]
 |false=>rw[if_neg (λb=>by cases b.2),if_neg (by decide)]
omit h hn h3 in
theorem pI {f:Int->Int}(hf:Par.Whole (gI g) (Xn n) f):∀a:Nat,a<=n->∃c,c<prR g a/\∀v:Nat,v<a->(gI g).own (v:Int)=true->repK g c v=f (v:Int)
 |0,_=>⟨0,Nat.one_pos,λv m=>absurd m (by omega)⟩
 |a+1,hj=>by
  obtain⟨c,q,r⟩:=pI hf a (by omega)
  have m:Xn n (a:Int):=⟨by omega,by omega⟩
  have z:=mr hN a (by omega)
  have j:prR g (a+1)=if(gI g).own (a:Int) then prR g a * (bm g.Arena (a:Int)).length else prR g a:=rfl
  cases k:(gI g).own (a:Int) with
  |true=>
   rw[k,if_pos rfl]at j
   have x:f (a:Int)∈bm g.Arena (a:Int):=(hf _ m).1
   obtain⟨e,p⟩:=zW.1 x
   have w:=(yo.1 p).1
   have u:∀i b:Nat,i<=b->prR g i ∣ prR g b:=λi b E=>by
    induction b with
    |zero=>rw[show i=0 by omega];exact Nat.dvd_refl _
    |succ b C=>
     by_cases D:i=b+1
     .rw[D];exact Nat.dvd_refl _
     .refine Nat.dvd_trans (C (by omega)) ?_
      show prR g b ∣ if ownL g.Arena.Owner (b:Int) then prR g b * (bm g.Arena (b:Int)).length else prR g b
      split
      .exact Nat.dvd_mul_right _ _
      .exact Nat.dvd_refl _
   refine⟨c+e * prR g a,?_,λv B d=>?_⟩
   .rw[j]
    have:=Nat.mul_le_mul_right (prR g a) (show e+1<=(bm g.Arena (a:Int)).length by omega)
    rw[Nat.add_mul,Nat.one_mul,Nat.mul_comm (bm g.Arena (a:Int)).length]at this
    omega
   .by_cases l:v=a
    .subst l
     unfold repK
     rw[Nat.add_mul_div_right _ _ z,Nat.div_eq_of_lt q,yH,Nat.mod_eq_of_lt w,p];rfl
    .rw[← r v (by omega) d]
     have A:=mr hN v (by omega)
     obtain⟨o,y⟩:=u (v+1) a (by omega)
     have s:prR g (v+1)=prR g v * (bm g.Arena (v:Int)).length:=by
      exact if_pos d
     have t:(c+e * prR g a) / prR g v=c / prR g v+(bm g.Arena (v:Int)).length * (o * e):=by
      rw[y,s,show e * (prR g v * (bm g.Arena (v:Int)).length * o)=(bm g.Arena (v:Int)).length * (o * e) * prR g v by
       simp only[Nat.mul_comm,Nat.mul_left_comm,Nat.mul_assoc]]
      exact Nat.add_mul_div_right _ _ A
     unfold repK
     rw[t,Nat.add_mul_mod_self_left]
  |false=>
   rw[k,if_neg (by decide)]at j
   refine⟨c,by rw[j];exact q,λv B d=>?_⟩
   by_cases l:v=a
   .subst l;rw[k]at d;cases d
   .exact r v (by omega) d
end
end
section
open Classical
section
variable {g:Parity}{n:Nat}(h:GOk g n) (h0:0<n) (hn:n<=6) (hN:Aq (gI g) (Xn n)) (h3:∀v r,idx g.Arena.Next v=some r->r.length<=3)
include h hn hN h3
structure WsOk (g:Parity) (n:Nat) (F:(Int->Int)->Prop) (v:Int) (w:Worth):Prop where
 ok:WOk n w
 from_:∃f,F f/\vG g n w=Par.nv (rsG g n) f v/\w.Head=Par.vh (rsG g n) f v
 least:∀f,F f->vG g n w<=Par.nv (rsG g n) f v
omit hN h3 in
theorem wK {q:VI}(hl:q.length=n) (hc:∀v,Xn n v->Xn n (rk q v)){F:(Int->Int)->Prop}{s:List Worth}(Q:s.length=n) (R:∀v:Nat,v<n->∃a,idx s (v:Int)=some a/\((a.Head= -1/\∀f,¬F f)\/WsOk g n F (v:Int) a)):
 ∃k,cntM (dC g q) n 0 s=some (.inr k)/\k.length=n/\∀v:Nat,v<n->∃a,idx k (v:Int)=some a/\WsOk g n (λf=>F f\/f=rk q) (v:Int) a:=by
 obtain⟨k,U,V,W,_⟩:=ba (f:=dC g q) (λb (e:List Worth)=>e.length=n/\(∀v:Nat,v<b->∃a,idx e (v:Int)=some a/\WsOk g n (λf=>F f\/f=rk q) (v:Int) a)/\∀v:Nat,b<=v->idx e (v:Int)=idx s (v:Int)) n (s:=s) ⟨Q,λv d=>absurd d (by omega),λv _=>rfl⟩ (λb e O ⟨X,Y,C⟩=>by
  have d:Xn n (b:Int):=⟨by omega,by omega⟩
  obtain⟨ab,l,Z,aa,p,m,D⟩:=vE h hn hl hc d
  obtain⟨a,H,I⟩:=R b O
  have w:idx e (b:Int)=some a:=by rw[C b (yE _)];exact H
  have y:(l.Head== -1)=false:=by
   have:=p.hd.1
   rw[beq_eq_false_iff_ne]
   omega
  unfold dC
  rw[Z,Af,aa,Af,w,Af]
  have A:∀c:List Worth,c.length=n->(∃x,idx c (b:Int)=some x/\WsOk g n (λf=>F f\/f=rk q) (b:Int) x)->(∀v:Nat,v≠b->idx c (v:Int)=idx e (v:Int))->c.length=n/\(∀v:Nat,v<b+1->∃a,idx c (v:Int)=some a/\WsOk g n (λf=>F f\/f=rk q) (v:Int) a)/\∀v:Nat,b+1<=v->idx c (v:Int)=idx s (v:Int):=λc E G r=>by
   refine⟨E,λv d=>?_,λv d=>?_⟩
   .by_cases u:v=b
    .subst u;exact G
    .rw[r v u];exact Y v (by omega)
   .rw[r v (by omega)];exact C v (by omega)
  obtain⟨c,o,ac⟩:=bj (xs:=e) (i:=(b:Int)) l (by omega) (by omega)
  have B:WsOk g n (λf=>F f\/f=rk q) (b:Int) l->c.length=n/\(∀v:Nat,v<b+1->∃a,idx c (v:Int)=some a/\WsOk g n (λf=>F f\/f=rk q) (v:Int) a)/\∀v:Nat,b+1<=v->idx c (v:Int)=idx s (v:Int):=λP=>A c (by omega) ⟨l,by rw[bp o,if_pos rfl],P⟩ λv d=>by rw[bp o,if_neg (by omega)]
  rcases I with ⟨S,T⟩|j
  .rw[show(a.Head== -1)=true by rw[S];rfl,cond_true,Af,cond_true,Af,y]
   rw[show nlk false=some () from rfl,Af,o,Af,Af]
   refine⟨_,rfl,B ⟨p,⟨rk q,.inr rfl,m,D⟩,λf hf=>?_⟩⟩
   rcases hf with hf|rfl
   .exact absurd hf (T f)
   .rw[m];exact Av _
  .have z:(a.Head== -1)=false:=by
    have:=j.ok.hd.1
    rw[beq_eq_false_iff_ne]
    omega
   rw[z,cond_false,Af,z,show nlk false=some () from rfl,Af,mH h hn j.ok p,Af,Af]
   by_cases t:vG g n l<vG g n a
   .rw[decide_eq_true t,cond_true,Af,y,show nlk false=some () from rfl,Af,o,Af,Af]
    refine⟨_,rfl,B ⟨p,⟨rk q,.inr rfl,m,D⟩,λf hf=>?_⟩⟩
    rcases hf with hf|rfl
    .have:=j.least f hf;omega
    .rw[m];exact Av _
   .rw[decide_eq_false t,cond_false,Af]
    obtain⟨K,L,M,N⟩:=j.from_
    refine⟨_,rfl,A e X ⟨a,w,j.ok,⟨K,.inl L,M,N⟩,λf hf=>?_⟩ λv _=>rfl⟩
    rcases hf with hf|rfl
    .exact j.least f hf
    .rw[← m];omega)
 exact⟨k,U,V,λv d=>W v d⟩
omit h hn hN h3 in
theorem WsOk.congr {F F':(Int->Int)->Prop}{v:Int}{w:Worth}(a:WsOk g n F v w) (e:∀f,F f↔F' f):WsOk g n F' v w:=by
 have:F=F':=funext λf=>propext (e f)
 exact this ▸ a
theorem uo {p:VI}(hp:PlOk g n p):∃A,eK g p=some A/\A.length=n/\∀v:Nat,v<n->∃c,idx A (v:Int)=some c/\WOk n c/\(∀f,Par.Whole (gI g) (Xn n) f->Par.Fol (gI g) (Xn n) (rk p) f->vG g n c<=Par.nv (rsG g n) f (v:Int))/\∃f,Par.Whole (gI g) (Xn n) f/\Par.Fol (gI g) (Xn n) (rk p) f/\vG g n c=Par.nv (rsG g n) f (v:Int)/\c.Head=Par.vh (rsG g n) f (v:Int):=by
 have P:=hp.len
 have hr:=mT (g:=g) hn
 let Q:Nat->(Int->Int)->Prop:=λj f=>∃e i,e<j/\f=rk i/\i.length=n/\∀v:Nat,v<n->rk i (v:Int)=if(gI g).own (v:Int) then repK g e v else rk p (v:Int)
 have D:∀j f,j<=prR g n->Q j f->Par.Whole (gI g) (Xn n) f/\Par.Fol (gI g) (Xn n) (rk p) f:=λj f O ⟨e,i,t,l,z,u⟩=>by
  subst l
  refine⟨λv d=>?_,λv d S=>?_⟩
  .obtain⟨a,rfl⟩:=bA d.1
   rw[u a (by have:=d.2;omega)]
   cases w:(gI g).own (a:Int) with
   |true=>
    rw[if_pos rfl]
    have C:e / prR g a % (bm g.Arena (a:Int)).length<(bm g.Arena (a:Int)).length:=AP _ (kU hN d)
    have k:repK g e a∈bm g.Arena (a:Int):=by
     unfold repK
     rw[nx C]
     exact List.getElem_mem C
    exact⟨k,(jY h d).2 _ k⟩
   |false=>
    rw[if_neg (by decide)]
    exact hp.mine _ d w
  .obtain⟨a,rfl⟩:=bA d.1
   rw[u a (by have:=d.2;omega),S,if_neg (by decide)]
 have L:=mr hN n (yE _)
 have af:=qn h hn h3 (j:=n) (yE _)
 obtain⟨o,X,Y,Z⟩:=ba (f:=eA g p (zf n (⟨-1,[],0⟩:Worth))) (λj (o:List Worth)=>o.length=n/\∀v:Nat,v<n->∃c,idx o (v:Int)=some c/\((c.Head= -1/\∀f,¬Q j f)\/WsOk g n (Q j) (v:Int) c)) (prR g n) (s:=zf n (⟨-1,[],0⟩:Worth)) ⟨by simp,λv d=>⟨⟨-1,[],0⟩,by rw[aS,zP,if_pos d],.inl ⟨rfl,λf ⟨e,_,t,_⟩=>by omega⟩⟩⟩ (λj o O ⟨V,W⟩=>by
  obtain⟨E,i,aa,ab,q,r⟩:=oR h hN hp (k:=j) (by omega)
  have hc:∀v,Xn n v->Xn n (rk i v):=λv d=>((D (j+1) (rk i) (by omega) ⟨j,i,by omega,rfl,q,r⟩).1 v d).2
  obtain⟨ah,ac,ad,ae⟩:=wK h hn q hc V W
  unfold eA
  rw[gQ h,Af,h.ln,aa,Af,aU,appL (by rw[List.length_nil];omega) rfl,Af,zz,yZ,ab,Af,aU,yZ,ac,Af,aU]
  refine⟨_,rfl,ad,λv d=>?_⟩
  obtain⟨c,s,m⟩:=ae v d
  refine⟨c,s,.inr (WsOk.congr m λf=>?_)⟩
  constructor
  .rintro(⟨e,y,t,l⟩|rfl)
   .exact⟨e,y,by omega,l⟩
   .exact⟨j,i,by omega,rfl,q,r⟩
  .rintro⟨e,y,t,l,z,u⟩
   by_cases G:e=j
   .subst G
    refine .inr ?_
    rw[l]
    funext x
    by_cases hx:Xn n x
    .obtain⟨a,rfl⟩:=bA hx.1
     have k:a<n:=by have:=hx.2;omega
     rw[u a k,r a k]
    .rw[mS (R:=y) (by rw[z];exact hx),mS (R:=i) (by rw[q];exact hx)]
   .exact .inl ⟨e,y,by omega,l,z,u⟩)
 have B:∀v:Nat,v<n->∃c,idx o (v:Int)=some c/\WsOk g n (Q (prR g n)) (v:Int) c:=λv d=>by
  obtain⟨c,s,m⟩:=Z v d
  refine⟨c,s,m.resolve_left λ⟨_,l⟩=>?_⟩
  obtain⟨E,i,_,_,q,r⟩:=oR h hN hp (k:=0) (by omega)
  exact l (rk i) ⟨0,i,L,rfl,q,r⟩
 refine⟨o,?_,Y,λv d=>?_⟩
 .unfold eK
  have U:rng ((prR g n:Nat):Int)=some ():=by
   unfold rng
   rw[if_pos (by omega)]
  have M:(o.any λx=>(x.Head==(-1)))=false:=by
   rw[List.any_eq_false]
   intro x hx
   obtain⟨a,k⟩:=zW.1 hx
   have ag:=(yo.1 k).1
   obtain⟨c,s,m⟩:=B a (by omega)
   rw[aS,k]at s
   cases s
   have:=m.ok.hd.1
   simp only[beq_iff_eq]
   omega
  rw[P,bL (by omega) rfl,Af,lE h hn h3,Af,U,Af,show zq (((prR g n:Nat):Int)-0)=prR g n by omega,X,Af,aU,M]
  rfl
 .obtain⟨c,s,m⟩:=B v d
  refine⟨c,s,m.ok,λf hf N=>?_,?_⟩
  .obtain⟨e,t,l⟩:=pI hN hf n (yE _)
   obtain⟨E,i,_,_,q,r⟩:=oR h hN hp (k:=e) (by omega)
   have T:=m.least (rk i) ⟨e,i,t,rfl,q,r⟩
   have hX:Xn n (v:Int):=⟨by omega,by omega⟩
   rw[Par.nv_congr hr (f:=f) (f':=rk i) (λx hx=>(hf x hx).2) (λx hx=>by
    obtain⟨a,rfl⟩:=bA hx.1
    have k:a<n:=by have:=hx.2;omega
    rw[r a k]
    cases w:(gI g).own (a:Int) with
    |true=>rw[if_pos rfl,l a k w]
    |false=>rw[if_neg (by decide),N _ hx w]) hX]
   exact T
  .obtain⟨f,H,I,K⟩:=m.from_
   obtain⟨F,b⟩:=D _ f (yE _) H
   exact⟨f,F,b,I,K⟩
end
end
section
open Classical
section
variable {g:Parity}{n:Nat}(h:GOk g n) (h0:0<n) (hn:n<=6) (hN:Aq (gI g) (Xn n)) (h3:∀v r,idx g.Arena.Next v=some r->r.length<=3)
include h hn hN h3
theorem oT {p:VI}(hp:PlOk g n p){f:Int->Int}(e:Par.Opt (rsG g n) (gI g) (Xn n) (rk p) f):∃d,eK g p=some d/\d.length=n/\∀v,Xn n v->∃c,idx d v=some c/\WOk n c/\vG g n c=Par.nv (rsG g n) f v/\c.Head=Par.vh (rsG g n) f v:=by
 have hr:=mT (g:=g) hn
 obtain⟨d,s,t,u⟩:=uo h hn hN h3 hp
 refine⟨d,s,t,λv a=>?_⟩
 obtain⟨j,rfl⟩:=bA a.1
 obtain⟨c,l,m,o,f',k,q,y,r⟩:=u j (by have:=a.2;omega)
 have w:=o f e.whole e.fol
 have b:=e.least hr k q a
 have x:Par.nv (rsG g n) f' (j:Int)=Par.nv (rsG g n) f (j:Int):=by omega
 refine⟨c,l,m,by omega,?_⟩
 have hf:∀v,Xn n v->Xn n (f v):=λv a=>(e.whole v a).2
 have i:∀v,Xn n v->Xn n (f' v):=λv a=>(k v a).2
 rw[r]
 refine Par.hd_inj hr (Par.vh_X hr i a) (Par.vh_X hr hf a) (Int.le_antisymm ?_ ?_)
 .exact(Par.hd_le hr i hf a a).1 (by omega)
 .exact(Par.hd_le hr hf i a a).1 (by omega)
theorem oY {p:VI}(hp:PlOk g n p){f:Int->Int}(ae:Par.Opt (rsG g n) (gI g) (Xn n) (rk p) f):∃o,fp g p=some o/\PlOk g n o/\∀v,Xn n v->(gI g).own v=false->(∀d,(gI g).E v d->Par.nv (rsG g n) f d<=Par.nv (rsG g n) f (rk o v))/\(rk o v=rk p v\/Par.nv (rsG g n) f (rk p v)<Par.nv (rsG g n) f (rk o v)):=by
 obtain⟨ab,ap,aC,B⟩:=oT h hn hN h3 hp ae
 have av:=hp.len
 let P:Int->Int->Prop:=λv x=>if(gI g).own v=false then((gI g).E v x/\Xn n x/\(∀d,(gI g).E v d->Par.nv (rsG g n) f d<=Par.nv (rsG g n) f x)/\(x=rk p v\/Par.nv (rsG g n) f (rk p v)<Par.nv (rsG g n) f x)) else x= -1
 obtain⟨o,aj,ak,al,_⟩:=ba (f:=dc g p ab) (λa (r:VI)=>r.length=n/\(∀v:Nat,v<a->∃x,idx r (v:Int)=some x/\P v x)/\∀v:Nat,a<=v->v<n->idx r (v:Int)=some (-1)) n (s:=zf n (-1)) ⟨by simp,λv c=>absurd c (by omega),λv _ c=>by rw[aS,zP,if_pos c]⟩ (λa r U ⟨am,an,M⟩=>by
  have c:Xn n (a:Int):=⟨by omega,by omega⟩
  obtain⟨ax,ah,ay,az,ai⟩:=qj h c
  obtain⟨Y,L⟩:=jY h c
  have I:=kU hN c
  have F:∀j x,j.length=n->idx j (a:Int)=some x->P a x->(∀v:Nat,v≠a->idx j (v:Int)=idx r (v:Int))->j.length=n/\(∀v:Nat,v<a+1->∃x,idx j (v:Int)=some x/\P v x)/\∀v:Nat,a+1<=v->v<n->idx j (v:Int)=some (-1):=λj x w y z O=>by
   refine⟨w,λv c=>?_,λv c af=>?_⟩
   .by_cases s:v=a
    .subst s;exact⟨x,y,z⟩
    .rw[O v s];exact an v (by omega)
   .rw[O v (by omega)];exact M v (by omega) af
  unfold dc
  rw[Y,Af,ah,Af,ai]
  cases k:(gI g).own (a:Int) with
  |true=>
   rw[cond_true]
   refine⟨_,rfl,F r (-1) am (M a (yE _) U) ?_ λv _=>rfl⟩
   show if(gI g).own (a:Int)=false then _ else _
   rw[if_neg (by rw[k];decide)]
  |false=>
   have K:(bm g.Arena (a:Int))[0]? =some ((bm g.Arena (a:Int))[0]'I):=nx I
   generalize(bm g.Arena (a:Int))[0]'I=u0 at K
   rw[cond_false,show idx (bm g.Arena (a:Int)) 0=some u0 by rw[show(0:Int)=((0:Nat):Int) from rfl,aS];exact K,Af]
   have aw:=h3 _ _ Y
   obtain⟨b,ac,Q,ad⟩:=ba (f:=de g ab (bm g.Arena (a:Int))) (λl (q:Int)=>q∈bm g.Arena (a:Int)/\∀(e:Nat) d,e<l->(bm g.Arena (a:Int))[e]? =some d->Par.nv (rsG g n) f d<=Par.nv (rsG g n) f q) (bm g.Arena (a:Int)).length (s:=u0) ⟨ze K,λe d t=>absurd t (by omega)⟩ (λl q G ⟨Z,aa⟩=>by
    have m:(bm g.Arena (a:Int))[l]? =some ((bm g.Arena (a:Int))[l]'G):=nx G
    generalize(bm g.Arena (a:Int))[l]'G=d at m
    have W:=ze m
    obtain⟨aE,w,y,z,_⟩:=B d (L d W)
    obtain⟨aq,C,D,E,_⟩:=B q (L q Z)
    unfold de
    rw[aS,m,Af,w,Af,C,Af,mH h hn y D,Af,z,E]
    by_cases u:Par.nv (rsG g n) f q<Par.nv (rsG g n) f d
    .rw[decide_eq_true u,cond_true,Af]
     refine⟨_,rfl,W,λe x t hx=>?_⟩
     by_cases s:e=l
     .subst s;rw[m]at hx;cases hx;exact Av _
     .have:=aa e x (by omega) hx;omega
    .rw[decide_eq_false u,cond_false,Af]
     refine⟨_,rfl,Z,λe x t hx=>?_⟩
     by_cases s:e=l
     .subst s;rw[m]at hx;cases hx;omega
     .exact aa e x (by omega) hx)
   have S:=L b Q
   have T:∀d,(gI g).E (a:Int) d->Par.nv (rsG g n) f d<=Par.nv (rsG g n) f b:=λd m=>by
    obtain⟨e,t⟩:=zW.1 (show d∈bm g.Arena (a:Int) from m)
    exact ad e d (yo.1 t).1 t
   obtain⟨ag,X⟩:=hp.mine _ c k
   obtain⟨j,A,aA⟩:=bj (xs:=r) (i:=(a:Int)) (rk p (a:Int)) (by omega) (by omega)
   have V:idx j (a:Int)=some (rk p (a:Int)):=by rw[bp A,if_pos rfl]
   obtain⟨aq,w,y,z,_⟩:=B b S
   obtain⟨aD,C,D,E,_⟩:=B (rk p (a:Int)) X
   rw[ac,Af,aU,gn (R:=p) (v:=(a:Int)) (by omega) (by omega),Af,M a (yE _) U,Af,A,Af,w,Af,Af,C,Af,mH h hn y D,Af,z,E]
   by_cases u:Par.nv (rsG g n) f (rk p (a:Int))<Par.nv (rsG g n) f b
   .obtain⟨ao,N,aB⟩:=bj (xs:=j) (i:=(a:Int)) b (by omega) (by omega)
    rw[decide_eq_true u,cond_true,V,Af,N,Af,Af]
    refine⟨_,rfl,F ao b (by omega) (by rw[bp N,if_pos rfl]) ?_ λv c=>by rw[bp N,if_neg (by omega),bp A,if_neg (by omega)]⟩
    show if(gI g).own (a:Int)=false then _ else _
    rw[if_pos k]
    exact⟨Q,S,T,.inr u⟩
   .rw[decide_eq_false u,cond_false,Af]
    refine⟨_,rfl,F j _ (by omega) V ?_ λv c=>by rw[bp A,if_neg (by omega)]⟩
    show if(gI g).own (a:Int)=false then _ else _
    rw[if_pos k]
    exact⟨ag,X,λd m=>by have:=T d m;omega,.inl rfl⟩)
 have H:∀v,Xn n v->P v (rk o v):=λv c=>by
  obtain⟨l,rfl⟩:=bA c.1
  obtain⟨x,ar,au⟩:=al l (by have:=c.2;omega)
  have:rk o (l:Int)=x:=by unfold rk;rw[ar];rfl
  rw[this];exact au
 refine⟨o,?_,⟨ak,λv c k=>?_,λv c k=>?_⟩,λv c k=>?_⟩
 .unfold fp
  rw[ap,Af,gQ h,Af,h.ln,aj];rfl
 .have i:=H v c
  have i:if(gI g).own v=false then _ else _:=i
  rw[if_pos k]at i
  exact⟨i.1,i.2.1⟩
 .have i:if(gI g).own v=false then _ else _:=H v c
  rw[if_neg (by rw[k];decide)]at i
  exact i
 .have i:if(gI g).own v=false then _ else _:=H v c
  rw[if_pos k]at i
  exact i.2.2
def FixP (g:Parity) (n:Nat) (p:VI) (f:Int->Int):Prop:=∀v,Xn n v->(gI g).own v=false->∀a,(gI g).E v a->Par.nv (rsG g n) f a<=Par.nv (rsG g n) f (rk p v)
omit h hn hN h3 in
theorem xz {p q:VI}(hp:p.length=n) (f:q.length=n) (e:∀v,Xn n v->rk p v=rk q v):p=q:=by
 apply List.ext_getElem?
 intro a
 by_cases d:a<n
 .have hX:Xn n (a:Int):=⟨by omega,by omega⟩
  have b:=gn (R:=p) (v:=(a:Int)) (by omega) (by omega)
  have c:=gn (R:=q) (v:=(a:Int)) (by omega) (by omega)
  rw[aS]at b c
  rw[b,c,e _ hX]
 .rw[List.getElem?_eq_none (by omega),List.getElem?_eq_none (by omega)]
theorem vI {p0:VI}(u:PlOk g n p0):∃p f,bn (dt g) (2 ^ 64) p0=some (.inl p)/\PlOk g n p/\Par.Opt (rsG g n) (gI g) (Xn n) (rk p) f/\FixP g n p f:=by
 have hr:=mT (g:=g) hn
 have hX:∀v,Xn n v↔0<=v/\v<n:=λv=>Iff.rfl
 have q:∀f:Int->Int,Par.Whole (gI g) (Xn n) f->Par.smI (Par.nv (rsG g n) f) n<=6000000000000000/\ -6000000000000000<=Par.smI (Par.nv (rsG g n) f) n:=λf hf=>by
  have:=Par.smI_bd (F:=Par.nv (rsG g n) f) (b:=1000000000000000) n λv i j=>Par.nv_bd hr (λv a=>(hf v a).2) (⟨i,j⟩:Xn n v)
  have K:((n:Int) * 1000000000000000)<=6 * 1000000000000000:=AK (by omega) (by omega)
  omega
 obtain⟨E,G,H⟩:=bI (f:=dt g) (λm (p:VI)=>PlOk g n p/\∃f,Par.Opt (rsG g n) (gI g) (Xn n) (rk p) f/\((m:Int)<=Par.smI (Par.nv (rsG g n) f) n+6000000000000000\/((m:Int)<=Par.smI (Par.nv (rsG g n) f) n+6000000000000001/\FixP g n p f))) (λp=>PlOk g n p/\∃f,Par.Opt (rsG g n) (gI g) (Xn n) (rk p) f/\FixP g n p f) (λ_=>False) 20000000000000000 (λm p ⟨hp,f,hf,A⟩=>by
  obtain⟨x,I,e,o⟩:=oY h hn hN h3 hp hf
  have L:=q f hf.whole
  unfold dt
  rw[I,Af,fa,Af]
  by_cases k:x=p
  .rw[decide_eq_true k,cond_true]
   subst k
   exact⟨_,rfl,hp,f,hf,λv a c=>(o v a c).1⟩
  .rw[decide_eq_false k,cond_false]
   obtain⟨f',r⟩:=Par.Opt.ex hr hX hn hN (σ:=rk x) λv a c=>e.mine v a c
   have t:∀v,Xn n v->Par.nv (rsG g n) f v<=Par.nv (rsG g n) f' v:=λv a=>hf.mono hr r (λv a c=>by
    rcases(o v a c).2 with d|d
    .rw[d];exact Av _
    .omega) a
   have M:=q f' r.whole
   have B:¬FixP g n p f:=λz=>k (xz e.len hp.len λv a=>by
    cases c:(gI g).own v with
    |true=>rw[e.yours v a c,hp.yours v a c]
    |false=>
     rcases(o v a c).2 with d|d
     .exact d
     .have:=z v a c _ (e.mine v a c).1;omega)
   have N:(m:Int)<=Par.smI (Par.nv (rsG g n) f) n+6000000000000000:=A.resolve_right λd=>B d.2
   refine⟨_,rfl,by omega,e,f',r,?_⟩
   by_cases l:∀v,Xn n v->Par.nv (rsG g n) f v=Par.nv (rsG g n) f' v
   .refine .inr ⟨?_,λv a c s w=>?_⟩
    .have:=Par.smI_congr (F:=Par.nv (rsG g n) f) (F':=Par.nv (rsG g n) f') n λv i j=>l v ⟨i,j⟩
     push_cast
     omega
    .have D:=(jY h a).2 s w
     rw[← l s D,← l _ (e.mine v a c).2]
     exact(o v a c).1 s w
   .obtain⟨v,a,O⟩:∃v,Xn n v/\Par.nv (rsG g n) f v≠Par.nv (rsG g n) f' v:=by
     apply zJ
     intro C
     exact l λv a=>zJ λd=>C ⟨v,a,d⟩
    have:=Par.smI_lt (F:=Par.nv (rsG g n) f) (F':=Par.nv (rsG g n) f') n (λv i j=>t v ⟨i,j⟩) v a.1 a.2 (by have:=t v a;omega)
    exact .inl (by push_cast;omega)) (2 ^ 64) 0 p0 (by omega) (by
  obtain⟨f,hf⟩:=Par.Opt.ex hr hX hn hN (σ:=rk p0) λv a c=>u.mine v a c
  have:=q f hf.whole
  exact⟨u,f,hf,.inl (by push_cast;omega)⟩) (by decide)
 match E,H with
 |.inl p,⟨y,f,b,c⟩=>exact⟨p,f,G,y,b,c⟩
omit hn h3 in
theorem sE (ha:eI g.Arena=true):∃p,gB g.Arena 0=some p/\PlOk g n p:=by
 obtain⟨c,H,I,z,_⟩:=ba (f:=dH g.Arena 0) (λb (j:VI)=>j.length=n/\(∀v:Nat,v<b->∃x,idx j (v:Int)=some x/\((gI g).own (v:Int)=false->(gI g).E (v:Int) x)/\((gI g).own (v:Int)=true->x= -1))/\∀v:Nat,b<=v->v<n->idx j (v:Int)=some (-1)) n (s:=zf n (-1)) ⟨by simp,λv a=>absurd a (by omega),λv _ a=>by rw[aS,zP,if_pos a]⟩ (λb j y ⟨L,A,k⟩=>by
  have a:Xn n (b:Int):=⟨by omega,by omega⟩
  obtain⟨D,E,F,M,G⟩:=qj h a
  obtain⟨K,N⟩:=jY h a
  have o:=kU hN a
  have C:(D==0)= !((gI g).own (b:Int)):=by
   rw[← G]
   rcases F with rfl|rfl <;> rfl
  unfold dH
  rw[K,Af,E,Af,C]
  cases d:(gI g).own (b:Int) with
  |true=>
   rw[zG,cond_false,Af]
   refine⟨_,rfl,L,λv q=>?_,λv q r=>k v (by omega) r⟩
   by_cases m:v=b
   .subst m
    exact⟨-1,k v (yE _) y,(λc=>by rw[d]at c;cases c),λ_=>rfl⟩
   .exact A v (by omega)
  |false=>
   have t:(bm g.Arena (b:Int))[0]? =some ((bm g.Arena (b:Int))[0]'o):=nx o
   generalize(bm g.Arena (b:Int))[0]'o=u0 at t
   obtain⟨O,l,P⟩:=bj (xs:=j) (i:=(b:Int)) u0 (by omega) (by omega)
   rw[Bool.not_false,cond_true,show idx (bm g.Arena (b:Int)) 0=some u0 by rw[show(0:Int)=((0:Nat):Int) from rfl,aS];exact t,Af,k b (yE _) y,Af,l,Af,Af]
   refine⟨_,rfl,by omega,λv q=>?_,λv q r=>?_⟩
   .by_cases m:v=b
    .subst m
     exact⟨u0,by rw[bp l,if_pos rfl],λ_=>ze t,λc=>by rw[d]at c;cases c⟩
    .rw[bp l,if_neg (by omega)];exact A v (by omega)
   .rw[bp l,if_neg (by omega)];exact k v (by omega) r)
 refine⟨c,?_,I,λv a d=>?_,λv a d=>?_⟩
 .unfold gB
  rw[lU,ha,Af,zG,cond_false,show jR 0=some true from rfl,Af,Af,zG,cond_false,gQ h,Af,h.ln,H];rfl
 .obtain⟨e,rfl⟩:=bA a.1
  obtain⟨x,u,w,B⟩:=z e (by have:=a.2;omega)
  have:rk c (e:Int)=x:=by unfold rk;rw[u];rfl
  rw[this];exact⟨w d,(jY h a).2 _ (w d)⟩
 .obtain⟨e,rfl⟩:=bA a.1
  obtain⟨x,u,w,B⟩:=z e (by have:=a.2;omega)
  have:rk c (e:Int)=x:=by unfold rk;rw[u];rfl
  rw[this];exact B d
end
theorem oV {g:Parity}(hp:bC g=true) (h0:0<g.Prio.length) (hn:g.Prio.length<=6) (h3:∀v r,idx g.Arena.Next v=some r->r.length<=3){W:Int->Prop}(u:Par.Sol (gI g) (Xn g.Prio.length) false W):fg g=some (wonL g.Prio.length W):=by
 have h:=GOk.of hp
 have hN:=eN h (gp hp)
 have ha:eI g.Arena=true:=by
  unfold bC at hp
  simp only[rx]at hp
  exact hp.1.1
 obtain⟨P,y,z⟩:=sE h hN ha
 obtain⟨p,f,q,s,k,t⟩:=vI h hn hN h3 z
 obtain⟨M,I,K,L⟩:=oT h hn hN h3 s k
 have hr:=mT (g:=g) hn
 obtain⟨c,D,E,F⟩:=ba (f:=da g M) (λb (c:VI)=>c.length=b/\∀v:Nat,v<b->c[v]? =some (b2i (decide (¬W (v:Int))))) g.Prio.length (s:=[]) ⟨rfl,λv a=>absurd a (by omega)⟩ (λb c O ⟨l,A⟩=>by
  have a:Xn g.Prio.length (b:Int):=⟨by omega,by omega⟩
  obtain⟨H,m,j,N,n⟩:=L _ a
  obtain⟨B,C⟩:=dD h j.hd.1 j.hd.2
  have i:=(Par.opt_wins hr (λx Q hx hy hl=>wC hn hx hy hl) (λx _=>sS x) k (λv G a e w _=>t v a e G w) u a).2
  rw[← n,sS]at i
  unfold da
  rw[m,Af,B,Af,jO C,app1 (by omega) rfl,Af]
  refine⟨_,rfl,by simp[l],λv a=>?_⟩
  by_cases o:v<b
  .rw[yT (by omega)];exact A v o
  .have:v=b:=by omega
   subst this
   rw[yU (by omega),l,Nat.sub_self,List.getElem?_cons_zero]
   congr 2
   by_cases d:W (v:Int)
   .rw[i.2 d];simp[d]
   .cases e:As ((gI g).pri H.Head) with
    |true=>simp[d]
    |false=>exact absurd (i.1 e) d)
 unfold fg jQ
 rw[fv hp (by omega),Af,zG,cond_false,lE h hn h3,Af,Af,decide_eq_false (by omega),cond_false,y,Af,q,Af,pS,Af,I,Af,K,D,Af,aU,lb E F]
end
section
open Classical
structure G6 (g:Parity):Prop where
 ok:bC g=true
 pos:0<g.Prio.length
 le:g.Prio.length<=6
 pri:∀v:Int,0<=v->v<g.Prio.length->(gI g).pri v<=4
 row:∀v r,idx g.Arena.Next v=some r->r.length<=3
theorem uq {g:Parity}(h:G6 g):jr g=some true:=by
 obtain⟨W,n,_,_,_,l,b⟩:=m0 h.ok
 have e:=GOk.of h.ok
 have m:(wonL g.Prio.length W).length=g.Prio.length:=iX _ _
 unfold jr lY
 rw[fv h.ok (by have:=h.le;omega),Af,zG,cond_false,lE e h.le h.row,Af,Af,decide_eq_false (by omega),cond_false,l,Af,oW h.ok h.pos h.le h.pri b,Af,qR h.ok h.pos (by have:=h.le;omega) b.sol,Af,oV h.ok h.pos h.le h.row b.sol,Af,oX h.ok h.pos h.le h.pri b.sol,Af,Af]
 generalize wonL g.Prio.length W=L
 have j:∀a:Nat,a<5->dW [L,L,L,L,L] (a:Int) ()=some (.inr (.inr ())):=λa c=>by
  have h0:idx [L,L,L,L,L] 0=some L:=rfl
  have i:idx [L,L,L,L,L] (a:Int)=some L:=by
   rcases(show a=0\/a=1\/a=2\/a=3\/a=4 by omega) with rfl|rfl|rfl|rfl|rfl <;> rfl
  unfold dW
  rw[i,Af,h0,Af,fa,decide_eq_true rfl]
  rfl
 obtain⟨d,k,_⟩:=ba (f:=dW [L,L,L,L,L]) (λ_ _=>True) 5 (s:=()) trivial (λa d c _=>⟨(),j a c,trivial⟩)
 rw[show([L,L,L,L,L]:VV).length=5 from rfl,k]
 rfl
end
theorem yk {z:Int}(h0:0<=z) (a:z<18446744073709551616):zr .u64 z=z:=by
 simp[zr,zA,IntKind.signed]
 omega
theorem kg {d:dice}(hb:∀x∈d.b,U8 x) (hl:d.b.length<=4096) (i:0<=d.i) (l:d.i<=4096){k:Int}(j:1<=k):∃x b h,ci d k=some (x,b,h)/\0<=x/\x<k/\0<=b/\b<=4096:=by
 unfold ci
 have c:nz k=some ():=by unfold nz;rw[if_neg (by omega)]
 generalize hA:(BitVec.ofInt (zA zD) (Int.fdiv (zr .u64 (zr .u64 (d.h * 6364136223846793005)+1442695040888963407)) (2 ^ (min (zq 33) (zA zD)))))=A
 have hy:(BitVec.toNat (A &&& BitVec.ofInt (zA zD) 16777215))<=16777215:=by
  rw[BitVec.toNat_and]
  refine Ae Nat.and_le_right ?_
  decide
 generalize(BitVec.toNat (A &&& BitVec.ofInt (zA zD) 16777215))=e at hy
 rw[yk (by omega) (by omega),wr' (z:=(e:Int)) (by omega) (by omega)]
 by_cases a:d.i<(d.b.length:Int)
 .obtain⟨x,hx,f⟩:=so (xs:=d.b) i a
  have g:=hb x f
  unfold U8 at g
  simp only[a,decide_true,cond_true,hx,Af,c]
  rw[wr' (z:=x) (by omega) (by omega),wr' (z:=(e:Int)+x) (by omega) (by omega),wr' (by omega) (by omega),AL (by omega)]
  exact⟨_,_,_,rfl,Int.emod_nonneg _ (by omega),Int.emod_lt_of_pos _ (by omega),by omega,by omega⟩
 .simp only[a,decide_false,cond_false,Af,c]
  rw[AL (by omega)]
  exact⟨_,_,_,rfl,Int.emod_nonneg _ (by omega),Int.emod_lt_of_pos _ (by omega),by omega,by omega⟩
theorem wA (b:VI) (k:Int):∃h,ou b k=some ⟨b,0,h⟩:=by
 unfold ou
 obtain⟨a,d,_⟩:=ba (f:=jC b) (λ_ _=>True) b.length (s:=(zr .u64 ((zr .u64 (k * 7919))+(zr .u64 (b.length:Int))))) trivial (λc a e _=>by
  have hx:b[c]? =some b[c]:=by simp[e]
  unfold jC
  rw[aS,hx]
  exact⟨_,rfl,trivial⟩)
 rw[d]
 exact⟨a,rfl⟩
theorem vX {xs:VI}(h:Asc xs){n:Int}(hn:n∈xs) (hl:xs.length<=100000):g6 xs n=some xs:=by
 obtain⟨e,d⟩:=List.getElem?_of_mem hn
 have m:=(yo.1 d).1
 obtain⟨i,j,k⟩:=bI (f:=dR xs n) (λa (c:Int)=>c=(a:Int)/\a<=e) (λ_=>False) (λc=>c=(e:Int)) xs.length (λa c ⟨b,l⟩=>by
  subst b
  have g:xs[a]? =some (xs[a]'(by omega)):=nx (by omega)
  generalize xs[a]'(by omega)=x at g
  unfold dR
  rw[decide_eq_true (show(a:Int)<(xs.length:Int) by omega),cond_true,aS,g,Af,Af]
  by_cases b:a=e
  .subst b
   rw[g]at d
   cases d
   rw[decide_eq_false (Int.lt_irrefl _),cond_false]
   exact⟨_,rfl,rfl⟩
  .have:=lL h g d (by omega)
   rw[decide_eq_true this,cond_true]
   exact⟨_,rfl,by omega,by rw[wr' (by omega) (by omega)];omega,by omega⟩)
  (2 ^ 64) 0 0 (by omega) ⟨rfl,Nat.zero_le _⟩ (by omega)
 match i,k with
 |.inr c,b=>
  have b:c=(e:Int):=b
  subst b
  unfold g6
  rw[j,Af,aU,decide_eq_true (show(e:Int)<(xs.length:Int) by omega),cond_true,aS,d,Af,Af]
  simp
structure St (n:Nat) (xs:VI):Prop where
 asc:Asc xs
 rng:∀x∈xs,0<=x/\x<n
theorem St.len {n:Nat}{xs:VI}(h:St n xs):xs.length<=n:=cF n xs (cH h.asc) h.rng
theorem St.ok {n:Nat}{xs:VI}(h:St n xs){m:Int}(a:(n:Int)<=m):ed m xs=true:=kY.2 ⟨λx hx=>by have:=h.rng x hx;omega,h.asc⟩
theorem St.of {n:Nat}{xs:VI}(h:ed (n:Int) xs=true):St n xs:=⟨(kY.1 h).2,(kY.1 h).1⟩
theorem St.filter {n:Nat}{xs:VI}(h:St n xs) (p:Int->Bool):St n (xs.filter p):=⟨h.asc.filter _,λx hx=>h.rng x (zV.1 hx).1⟩
section
variable {n:Nat}{xs ys:VI}(hn:n<=256) (hx:St n xs) (hy:St n ys)
include hn hx hy
theorem rV:kB xs ys=some true:=by
 have d:=hx.len
 have b:=hy.len
 have c:∀{a:VI},St n a->a.length<=n->kV a 256=some true:=λ{a} h hl=>by
  unfold kV
  rw[iz,oJ (by omega) (by omega) (by omega),h.ok (by omega)]
  rfl
 unfold kB
 rw[c hx d,Af,cond_true,c hy b];rfl
end
theorem xU {n:Nat}(hn:n<=256){xs:VI}(hx:St n xs){y:Int}(f:0<=y) (g:y<n):∃R,kw xs [y]=some R/\St n R/\R.length<=xs.length+1/\R≠[]:=by
 have hl:=hx.len
 have hy:St n [y]:=⟨by unfold Asc;simp,λa c=>by rw[yw.1 c];exact⟨f,g⟩⟩
 obtain⟨R,i,j,e⟩:∃R,g6 xs y=some R/\R.length<=xs.length+1/\(Asc R/\∀a,a∈R↔a=y\/a∈xs):=by
  by_cases h:y∈xs
  .exact⟨xs,vX hx.asc h (by omega),by omega,hx.asc,λa=>⟨.inr,λd=>d.elim (λb=>b ▸ h) id⟩⟩
  .exact⟨_,vW hx.asc h (by omega),by rw[sA h hx.asc];omega,p9 hx.asc,qa h⟩
 refine⟨R,?_,⟨e.1,λa c=>?_⟩,j,λb=>?_⟩
 .unfold kw
  rw[rV hn hx hy,Af,zG,cond_false,qC (by omega),Af]
  show zm (zm (gX [y] 0 xs) _) _=_
  unfold gX
  rw[show idx [y] 0=some y from rfl,Af,i]
  rfl
 .rcases(e.2 a).1 c with rfl|d
  .exact⟨f,g⟩
  .exact hx.rng a d
 .have:=(e.2 y).2 (.inl rfl)
  rw[b]at this
  cases this
section
variable {b:VI}(hb:∀x∈b,U8 x) (hl:b.length<=4096)
include hb hl
theorem uD {m:Int}{n:Nat}{x1 x2:Int}(D:1+m=(n:Int)) (hn:n<=6) (O:1<=n){k i h:Int}(Q:0<=k) (k1:k<3) (F:0<=i) (G:i<=4096):∃e v c g,bn (cV ⟨b,0,h⟩ (m,x1,x2)) (2 ^ 64) ([],1+k,i,h)=some (.inr (e,v,c,g))/\St n e/\1<=e.length/\e.length<=3/\0<=c/\c<=4096:=by
 obtain⟨I,K,L⟩:=bI (f:=cV ⟨b,0,h⟩ (m,x1,x2)) (λj (a:VI×Int×Int×Int)=>a.2.1=1+k-(j:Int)/\(j:Int)<=1+k/\0<=a.2.2.1/\a.2.2.1<=4096/\St n a.1/\a.1.length<=j/\(0<j->a.1≠[])) (λ_=>False) (λa=>St n a.1/\1<=a.1.length/\a.1.length<=3/\0<=a.2.2.1/\a.2.2.1<=4096) 4 (λj a ⟨y,M,l,o,p,z,w⟩=>by
  obtain⟨xs,H,c,g⟩:=a
  dsimp only at y l o p z w
  unfold cV
  dsimp only
  by_cases x:0<H
  .have E:zr .i64 (1+m)=(n:Int):=by rw[wr' (by omega) (by omega),D]
   rw[decide_eq_true x,cond_true,E]
   obtain⟨T,P,h3,q,r,s,t,u⟩:=kg (d:=⟨b,c,g⟩) hb hl l o (k:=(n:Int)) (by omega)
   obtain⟨R,A,B,N,C⟩:=xU (by omega) p r s
   rw[q,Af]
   dsimp only
   rw[A,Af,wr' (by omega) (by omega)]
   exact⟨_,rfl,by omega,by dsimp only;omega,by omega,t,u,B,by dsimp only;omega,λ_=>C⟩
  .rw[decide_eq_false x,cond_false]
   have:=w (by omega)
   have hp:=List.length_pos_iff.2 this
   exact⟨_,rfl,p,by dsimp only;omega,by dsimp only;omega,l,o⟩) (2 ^ 64) 0 ([],1+k,i,h) (by omega) ⟨by dsimp only;omega,by omega,F,G,⟨by unfold Asc;simp,by simp⟩,by simp,λS=>by omega⟩ (by decide)
 match I,L with
 |.inr (e,v,c,g),⟨q,r,s,t,u⟩=>exact⟨e,v,c,g,K,q,r,s,t,u⟩
theorem vS {i h:Int}(ap:0<=i) (aq:i<=4096):∃g ao af,kq ⟨b,i,h⟩ 6=some (g,ao,af)/\G6 g/\(∀c∈g.Arena.Owner,c=0\/c=1)/\(∀p∈g.Prio,0<=p/\p<=4)/\∀r∈g.Arena.Next,St 6 r/\1<=r.length/\r.length<=3:=by
 obtain⟨x,k,j,H,aF,aG,I,K⟩:=kg (d:=⟨b,i,h⟩) hb hl ap aq (k:=6) (by omega)
 obtain⟨n,hn⟩:=bA (z:=1+x) (by omega)
 have ak:n<=6:=by omega
 have aj:1<=n:=by omega
 obtain⟨a,av,aw,ax,ay,az,aA,s,e,q⟩:=ba (f:=gV ⟨b,i,h⟩ (x,k,j)) (λm (a:Int×Int×VI×VV×VI)=>0<=a.1/\a.1<=4096/\a.2.2.1.length=m/\a.2.2.2.1.length=m/\a.2.2.2.2.length=m/\(∀c∈a.2.2.1,c=0\/c=1)/\(∀r∈a.2.2.2.1,St n r/\1<=r.length/\r.length<=3)/\∀p∈a.2.2.2.2,0<=p/\p<=4) n (s:=(k,j,[],[],[])) ⟨I,K,rfl,rfl,rfl,by simp,by simp,by simp⟩ (λm a aM ⟨w,y,z,A,B,C,D,E⟩=>by
  obtain⟨u,t,O,R,P⟩:=a
  dsimp only at w y z A B C D E
  obtain⟨o,aN,h3,L,M,N,Q,S⟩:=kg (d:=⟨b,u,t⟩) hb hl w y (k:=3) (by omega)
  obtain⟨F,aP,ar,ag,T,U,V,W,X,Y⟩:=uD hb hl (x1:=k) (x2:=j) hn ak aj (h:=h3) M N Q S
  obtain⟨c,au,ah,Z,aH,aI,aa,ab⟩:=kg (d:=⟨b,ar,ag⟩) hb hl X Y (k:=2) (by omega)
  obtain⟨p,aO,aL,ac,aJ,aK,ad,ae⟩:=kg (d:=⟨b,au,ah⟩) hb hl aa ab (k:=5) (by omega)
  unfold gV
  dsimp only
  rw[L,Af,wr' (by omega) (by omega)]
  dsimp only
  rw[show cV ⟨b,i,h⟩ (x,k,j)=cV ⟨b,0,h3⟩ (x,k,j) from rfl,T,Af,aU]
  dsimp only
  rw[Z,Af,app1 (by omega) rfl,Af,app1 (by omega) rfl,Af]
  dsimp only
  rw[ac,Af,app1 (by omega) rfl,Af]
  refine⟨_,rfl,ad,ae,?_,?_,?_,?_,?_,?_⟩
  .simp[z]
  .simp[A]
  .simp[B]
  .intro l hy
   rcases yu.1 hy with hy|hy
   .exact C l hy
   .rw[yw.1 hy];omega
  .intro l hy
   rcases yu.1 hy with hy|hy
   .exact D l hy
   .rw[yw.1 hy];exact⟨U,V,W⟩
  .intro l hy
   rcases yu.1 hy with hy|hy
   .exact E l hy
   .rw[yw.1 hy];omega)
 obtain⟨u,t,O,R,P⟩:=a
 dsimp only at aw ax ay az aA s e q
 have am:rng ((n:Nat):Int)=some ():=by
  unfold rng
  rw[if_pos (by omega)]
 refine⟨⟨⟨O,R⟩,P⟩,u,t,?_,⟨ua (by dsimp only;omega) (by dsimp only;omega) (by dsimp only;omega) (by dsimp only;omega) (λF hr=>?_) (λc al=>?_) λp hp=>?_,by dsimp only;omega,by dsimp only;omega,λv aD aE=>?_,λv r hr=>?_⟩,s,q,λr hr=>⟨⟨(e r hr).1.asc,λG an=>by have:=(e r hr).1.rng G an;omega⟩,(e r hr).2⟩⟩
 .unfold kq
  rw[H,Af]
  dsimp only
  rw[wr' (by omega) (by omega),hn,am,Af,show zq ((n:Int)-0)=n by omega,av]
  rfl
 .obtain⟨aB,aC,aQ⟩:=e F hr
  exact⟨aC,by omega,aB.ok (by dsimp only;omega)⟩
 .rw[kM]
  have:=s c al
  omega
 .rw[kM]
  have:=q p hp
  omega
 .have ai:idx P v=some (priL P v):=fR aD aE
  exact(q _ (ml ai)).2
 .exact(e r (ml hr)).2.2
end
def ofL (l:List UInt8):ByteArray:=⟨l.toArray⟩
theorem gW (l:List UInt8):(ofL l).data.toList=l:=rfl
theorem fP (l:List UInt8):(ofL l).size=l.length:=rfl
theorem mq (s:ByteArray):ofL s.data.toList=s:=by cases s;rfl
theorem wm (a b:List UInt8):ofL a++ofL b=ofL (a++b):=by
 apply ByteArray.ext
 show(ofL a++ofL b).data=(a++b).toArray
 rw[ByteArray.data_append]
 show a.toArray++b.toArray=_
 simp
theorem cp {a b:List UInt8}(h:a.length+b.length<=9223372036854775807):catB (ofL a) (ofL b)=some (ofL (a++b)):=by
 unfold catB
 rw[fP,fP,if_pos h,wm]
theorem tp (a b:List UInt8):eqB (ofL a) (ofL b)=decide (a=b):=rfl
theorem tY {xs:List (List UInt8)}{a:List UInt8}(d:xs.length<=100000000000000) (e:(Lib.join xs a).length<=100000000000000):joinB (xs.map ofL) (ofL a)=some (ofL (Lib.join xs a)):=by
 have b:(xs.map ofL).map (λc=>c.data.toList)=xs:=by
  rw[List.map_map]
  conv=>rhs;rw[← List.map_id xs]
  apply List.map_congr_left
  intro x _;rfl
 unfold joinB
 rw[b,gW,if_pos ⟨by rw[List.length_map];omega,by omega⟩];rfl
theorem tZ (a x:List UInt8):∀xs:List (List UInt8),Lib.join (xs++[x]) a=if xs=[] then x else Lib.join xs a++a++x
 | []=>by simp[Lib.join_one]
 |y::r=>by
  rw[zy,Lib.join_cons,Lib.join_cons,if_neg (by simp)]
  simp[Lib.joinTail,List.append_assoc]
theorem py {u:Nat}(h:u<10):Lib.decDigits u=[UInt8.ofNat (48+u)]:=by rw[Lib.decDigits,dif_pos h]
theorem uJ (u:Nat):Lib.itoa (u:Int)=Lib.decDigits u:=by
 unfold Lib.itoa
 rw[if_neg (by omega),Aj]
theorem mb {m:Nat}(a:m<=1000000000000):iy (m:Int)=some (ofL (Lib.decDigits m)):=by
 unfold iy ga fmtB
 rw[if_pos ⟨rfl,by omega,by omega⟩,uJ];rfl
def sp (c:UInt8):List UInt8->List (List UInt8)
 | []=>[[]]
 |b::l=>if b=c then[]::sp c l else match sp c l with
  |w::ws=>(b::w)::ws
  | []=>[[b]]
theorem tO (c:UInt8):∀a,sp c a≠[]
 | []=>by simp[sp]
 |b::a=>by
  unfold sp
  split
  .simp
  .cases sp c a <;> simp
theorem dU {c b:UInt8}{l w:List UInt8}{ws:List (List UInt8)}(h:¬b=c) (e:sp c l=w::ws):sp c (b::l)=(b::w)::ws:=by
 unfold sp
 rw[if_neg h,e]
theorem mD {c:UInt8}(l:List UInt8):sp c (c::l)=[]::sp c l:=by
 rw[sp,if_pos rfl]
theorem vu (c:UInt8):∀a,(sp c a).length<=a.length+1/\∀d∈sp c a,d.length<=a.length
 | []=>by simp[sp]
 |b::a=>by
  obtain⟨i,e⟩:=vu c a
  by_cases h:b=c
  .subst h
   rw[mD]
   refine⟨by simp only[yr];omega,λd f=>?_⟩
   rcases yv.1 f with rfl|f
   .simp
   .have:=e d f;simp only[yr];omega
  .obtain⟨d,j,g⟩:=AM (tO c a)
   rw[dU h g]
   rw[g]at i e
   refine⟨by simp only[yr]at i ⊢;omega,λx hx=>?_⟩
   rcases yv.1 hx with rfl|hx
   .have:=e d (zU ..)
    simp only[yr];omega
   .have:=e x (zd _ hx);simp only[yr];omega
theorem nT (c x:UInt8):∀(l:List UInt8) (d:List (List UInt8)) (w:List UInt8),sp c l=d++[w]->sp c (l++[x])=if x=c then d++[w]++[[]] else d++[w++[x]]
 | [],d,w,h=>by
  have:d=[]/\w=[]:=by
   cases d with
   |nil=>simpa [sp] using h.symm
   |cons g d=>simp[sp]at h
  obtain⟨rfl,rfl⟩:=this
  by_cases hx:x=c
  .subst hx;simp[sp]
  .simp[sp,hx]
 |b::l,d,w,h=>by
  by_cases hb:b=c
  .subst hb
   rw[mD]at h
   rw[zy,mD]
   cases d with
   |nil=>
    simp only[zz,List.cons.injEq]at h
    exact absurd h.2 (tO _ _)
   |cons g d=>
    simp only[zy,List.cons.injEq]at h
    obtain⟨rfl,h⟩:=h
    rw[nT b x l d w h]
    split <;> simp
  .obtain⟨a,e,f⟩:=AM (tO c l)
   rw[dU hb f]at h
   cases d with
   |nil=>
    simp only[zz,List.cons.injEq]at h
    obtain⟨rfl,rfl⟩:=h
    have:=nT c x l [] a (by rw[f];rfl)
    rw[zy]
    by_cases hx:x=c
    .rw[if_pos hx]at this ⊢
     rw[dU hb (w:=a) (ws:=[[]]) (by rw[this];rfl)]
     rfl
    .rw[if_neg hx]at this ⊢
     rw[dU hb (w:=a++[x]) (ws:=[]) (by rw[this];rfl)]
     rfl
   |cons g d=>
    simp only[zy,List.cons.injEq]at h
    obtain⟨rfl,rfl⟩:=h
    have:=nT c x l (a::d) w (by rw[f];rfl)
    rw[zy]
    by_cases hx:x=c
    .rw[if_pos hx]at this ⊢
     rw[dU hb (w:=a) (ws:=d++[w]++[[]]) (by rw[this];rfl)]
     rfl
    .rw[if_neg hx]at this ⊢
     rw[dU hb (w:=a) (ws:=d++[w++[x]]) (by rw[this];rfl)]
     rfl
theorem qM {c:UInt8}:∀{l:List UInt8},c∉l->sp c l=[l]
 | [],_=>rfl
 |b::l,h=>by
  have d:¬b=c:=λa=>h (by rw[a];exact zU ..)
  exact dU d (qM λe=>h (zd _ e))
theorem mC {c:UInt8}(r:List UInt8):∀{w:List UInt8},c∉w->sp c (w++c::r)=w::sp c r
 | [],_=>mD r
 |b::w,h=>by
  have d:¬b=c:=λa=>h (by rw[a];exact zU ..)
  exact dU d (mC r λe=>h (zd _ e))
theorem nc (b c:UInt8) (l:List UInt8):Lib.index (b::l) [c]=if b=c then 0 else if Lib.index l [c]== -1 then -1 else Lib.index l [c]+1:=by
 conv=>lhs;unfold Lib.index
 by_cases h:b=c
 .subst h;simp[List.isPrefixOf]
 .have:¬c=b:=λa=>h a.symm
  simp[List.isPrefixOf,h,this]
theorem mY (c:UInt8):∀(l:List UInt8) (k:Nat),l.count c<=k->Lib.splitK [c] 0 k l=sp c l
 | [],0,_=>rfl
 | [],k+1,_=>by
  have:(Lib.index [] [c]== -1)=true:=by simp[Lib.index]
  unfold Lib.splitK
  rw[if_pos this];rfl
 |b::l,k,h=>by
  by_cases hb:b=c
  .subst hb
   rw[List.count_cons_self]at h
   obtain⟨k,rfl⟩:∃g,k=g+1:=⟨k-1,by omega⟩
   unfold Lib.splitK
   rw[nc,if_pos rfl,mD]
   simp only[show((0:Int)== -1)=false from rfl,Bool.false_eq_true,if_false]
   show[]::Lib.splitK [b] 0 k l=_
   rw[mY b l k (by omega)]
  .rw[List.count_cons_of_ne hb]at h
   have a:=mY c l k h
   cases k with
   |zero=>
    have e:sp c l=[l]:=a.symm
    rw[dU hb e];rfl
   |succ k=>
    unfold Lib.splitK at a ⊢
    rw[nc,if_neg hb]
    by_cases d:(Lib.index l [c]== -1)=true
    .rw[if_pos d]at a
     rw[if_pos d]
     simp only[beq_self_eq_true,if_true]
     rw[dU hb a.symm]
    .rw[if_neg d]at a
     rw[if_neg d]
     have i:=Lib.index_ge l [c]
     have j:Lib.index l [c]≠ -1:=λe=>d (by rw[e];rfl)
     have f:((Lib.index l [c]+1)== -1)=false:=by rw[beq_eq_false_iff_ne];omega
     rw[f]
     simp only[Bool.false_eq_true,if_false]
     have hn:(Lib.index l [c]+1).toNat=(Lib.index l [c]).toNat+1:=by omega
     rw[hn,dU hb a.symm]
     simp only[Nat.add_zero,List.length_singleton]
     rfl
theorem lI {c:UInt8}{l:List UInt8}(h:l.length<4294967281):splitS (ofL l) (ofL [c])=some ((sp c l).map ofL):=by
 have a:=Lib.splitB_data (ofL [c]) 0 (Lib.countB (ofL l) (ofL [c])) (ofL l)
 have hc:Lib.countB (ofL l) (ofL [c])=l.count c:=Lib.count_one c l
 unfold splitS
 rw[if_pos ⟨h,by rw[fP];simp⟩,hc]
 rw[hc]at a
 rw[gW,gW,mY c l _ (yE _)]at a
 rw[← a,List.map_map]
 congr 1
 conv=>lhs;rw[← List.map_id (Lib.splitB _ _ _ _)]
 apply List.map_congr_left
 intro x _
 exact(mq x).symm
theorem pQ {a:Type}{l:List a}{i:Nat}{x:a}(h:l[i]? =some x):l.take (i+1)=l.take i++[x]:=by
 rw[List.take_add_one,h];rfl
theorem rb (l:List UInt8) (a b:Nat):(ofL l).extract a b=ofL ((l.take b).drop a):=by
 apply ByteArray.ext
 apply Array.toList_inj.1
 rw[Lib.extract_data,gW,gW]
 exact(List.drop_take ..).symm
theorem vy {l:List UInt8}{a b:Nat}(c:a<=b) (d:b<=l.length):subB (ofL l) (a:Int) (b:Int)=some (ofL ((l.take b).drop a)):=by
 unfold subB
 rw[fP,if_pos ⟨by omega,by omega,by omega⟩,Aj,Aj,rb]
theorem uH {l:List UInt8}{i:Nat}{x:UInt8}(h:l[i]? =some x):idxB (ofL l) (i:Int)=some (x.toNat:Int):=by
 have a:=(yo.1 h).1
 unfold idxB
 rw[fP,if_pos ⟨by omega,by omega⟩,Aj,gW,List.getD_eq_getElem?_getD,h];rfl
theorem yi (x c:UInt8):((x.toNat:Int)==(c.toNat:Int))=decide (x=c):=by
 by_cases h:x=c
 .subst h;simp
 .have:x.toNat≠c.toNat:=λa=>h (UInt8.toNat_inj.1 a)
  rw[decide_eq_false h,beq_eq_false_iff_ne];omega
def txt (L:List (List UInt8)):List UInt8:=(L.map (· ++ [10])).flatten
theorem oM (l:List UInt8) (L:List (List UInt8)):txt (l::L)=l++10::txt L:=by simp[txt]
theorem qO (L M:List (List UInt8)):txt (L++M)=txt L++txt M:=by simp[txt]
theorem vv:∀{L:List (List UInt8)},(∀a∈L,10∉a)->sp 10 (txt L)=L++[[]]
 | [],_=>rfl
 |a::L,h=>by
  rw[oM,mC _ (h a (zU ..)),vv λx hx=>h x (zd _ hx)];rfl
theorem sd:∀{L:List (List UInt8)},L≠[]->(∀a∈L,10∉a)->∃b,txt L=b++[10]/\sp 10 b=L
 | [a],_,h=>⟨a,by simp[txt],qM (h a (zU ..))⟩
 |a::m::L,_,h=>by
  obtain⟨b,c,d⟩:=sd (L:=m::L) (by simp) λx hx=>h x (zd _ hx)
  exact⟨a++10::b,by rw[oM,c];simp,by rw[mC _ (h a (zU ..)),d]⟩
theorem um (t:List UInt8) (c:UInt8):Lib.trimSuffix (t++[c]) [c]=t:=by
 unfold Lib.trimSuffix Lib.hasSuffix
 rw[if_pos (by rw[List.isSuffixOf_iff_suffix];exact List.suffix_append ..)]
 simp
theorem vC {l p:List UInt8}(h:l.length<=9223372036854775807):tsufB (ofL l) (ofL p)=some (ofL (Lib.trimSuffix l p)):=by
 unfold tsufB
 rw[fP,if_pos h];rfl
theorem sC {l:List UInt8}(h:l.length<=1000000000):mi (ofL l)=some ((sp 10 l).dropLast.map ofL):=by
 have hr:rng ((ofL l).size:Int)=some ():=by
  rw[fP];unfold rng;rw[if_pos (by omega)]
 have hn:zq (((ofL l).size:Int)-0)=l.length:=by rw[fP];omega
 obtain⟨g,n,c,b,r,h3,i⟩:=ba (f:=gj (ofL l)) (λa (g:List ByteArray×Int)=>∃(c:List (List UInt8)) (b:Nat),b<=a/\g=(c.map ofL,(b:Int))/\sp 10 (l.take a)=c++[(l.take a).drop b]) l.length (s:=([],0)) ⟨[],0,yE _,rfl,by simp[sp]⟩ (λa g p ⟨c,b,hf,q,k⟩=>by
  subst q
  have j:=(vu 10 (l.take a)).1
  rw[k,y8]at j
  simp only[List.length_append,List.length_singleton]at j
  obtain⟨x,hx⟩:∃x,l[a]? =some x:=⟨_,nx p⟩
  have d:=nT 10 x (l.take a) c _ k
  rw[← pQ hx]at d
  have o:(l.take (a+1)).drop b=(l.take a).drop b++[x]:=by
   rw[pQ hx,List.drop_append_of_le_length (by rw[y8];omega)]
  unfold gj
  rw[uH hx,Af,show(10:Int)=((10:UInt8).toNat:Int) from rfl,yi]
  by_cases e:x=10
  .rw[if_pos e]at d
   rw[decide_eq_true e,cond_true,vy hf (by omega),Af,app1 (by rw[List.length_map];omega) rfl,Af,Af]
   refine⟨_,rfl,c++[(l.take a).drop b],a+1,yE _,?_,?_⟩
   .rw[wr' (z:=(a:Int)+1) (by omega) (by omega),List.map_append]
    rfl
   .have m:(l.take (a+1)).drop (a+1)=[]:=List.drop_eq_nil_of_le (by rw[y8];omega)
    rw[d,m]
  .rw[if_neg e]at d
   rw[decide_eq_false e,cond_false,Af]
   exact⟨_,rfl,c,b,by omega,rfl,by rw[d,o]⟩)
 unfold mi
 rw[hr,Af,hn]
 show zm (cntM (gj (ofL l)) l.length 0 ([],0)) _=_
 rw[n,Af,aU,h3]
 rw[List.take_length]at i
 rw[i,List.dropLast_concat]
theorem uN {xs:List (List UInt8)}{a:List UInt8}{b:UInt8}(h:b∈Lib.join xs a):b∈a\/∃x∈xs,b∈x:=by
 cases xs with
 |nil=>rw[Lib.join_nil]at h;cases h
 |cons x r=>
  rw[Lib.join_cons,yu]at h
  rcases h with h|h
  .exact .inr ⟨x,zU ..,h⟩
  .unfold Lib.joinTail at h
   obtain⟨e,c,hb⟩:=List.mem_flatten.1 h
   obtain⟨d,hy,rfl⟩:=AA.1 c
   rcases yu.1 hb with hb|hb
   .exact .inl hb
   .exact .inr ⟨d,zd _ hy,hb⟩
set_option maxRecDepth 100000
def chkV (p o:Int) (row:VI):Bool:=match eW ⟨⟨[o],[row]⟩,[p]⟩ 0 with
 |some a=>decide (10∉a.data.toList)&&(decide (a.data.toList.length<=60)&&match cY a 12 with
  |some (d,c,e,b)=>b&&decide (d=p/\c=o/\e=row)
  |none=>false)
 |none=>false
def go:VV:=[[0],[1],[2],[3],[4],[5],[0,1],[0,2],[0,3],[0,4],[0,5],[1,2],[1,3],[1,4],[1,5],[2,3],[2,4],[2,5],[3,4],[3,5],[4,5],[0,1,2],[0,1,3],[0,1,4],[0,1,5],[0,2,3],[0,2,4],[0,2,5],[0,3,4],[0,3,5],[0,4,5],[1,2,3],[1,2,4],[1,2,5],[1,3,4],[1,3,5],[1,4,5],[2,3,4],[2,3,5],[2,4,5],[3,4,5]]
theorem wY:go.all (chkV 0 0)=true:=by decide +kernel
theorem wZ:go.all (chkV 0 1)=true:=by decide +kernel
theorem xa:go.all (chkV 1 0)=true:=by decide +kernel
theorem xb:go.all (chkV 1 1)=true:=by decide +kernel
theorem xc:go.all (chkV 2 0)=true:=by decide +kernel
theorem xd:go.all (chkV 2 1)=true:=by decide +kernel
theorem xe:go.all (chkV 3 0)=true:=by decide +kernel
theorem xf:go.all (chkV 3 1)=true:=by decide +kernel
theorem xg:go.all (chkV 4 0)=true:=by decide +kernel
theorem xh:go.all (chkV 4 1)=true:=by decide +kernel
theorem uy {p o:Int}(c:0<=p/\p<=4) (b:o=0\/o=1):go.all (chkV p o)=true:=by
 have a:p=0\/p=1\/p=2\/p=3\/p=4:=by omega
 rcases a with rfl|rfl|rfl|rfl|rfl <;> rcases b with rfl|rfl
 .exact wY
 .exact wZ
 .exact xa
 .exact xb
 .exact xc
 .exact xd
 .exact xe
 .exact xf
 .exact xg
 .exact xh
theorem ui {A:VI}(h:St 6 A) (b:1<=A.length) (h3:A.length<=3):A∈go:=by
 have c:A=([0,1,2,3,4,5]:VI).filter λx=>decide (x∈A):=mF h.asc ((show Asc [0,1,2,3,4,5] by unfold Asc;decide).filter _) λe=>by
  rw[zV,decide_eq_true_eq]
  refine⟨λa=>⟨?_,a⟩,λa=>a.2⟩
  have:=h.rng e a
  simp only[yv,List.not_mem_nil,or_false]
  omega
 have d:∀f:Int->Bool,1<=(([0,1,2,3,4,5]:VI).filter f).length->(([0,1,2,3,4,5]:VI).filter f).length<=3->([0,1,2,3,4,5]:VI).filter f∈go:=λf=>by
  simp only[List.filter]
  cases f 0 <;> cases f 1 <;> cases f 2 <;> cases f 3 <;> cases f 4 <;> cases f 5 <;> decide
 rw[c]at b h3 ⊢
 exact d _ b h3
theorem sf {p o:Int}{row:VI}(e:0<=p/\p<=4) (f:o=0\/o=1) (h3:St 6 row) (g:1<=row.length) (i:row.length<=3):∃a:List UInt8,eW ⟨⟨[o],[row]⟩,[p]⟩ 0=some (ofL a)/\10∉a/\a.length<=60/\cY (ofL a) 12=some (p,o,row,true):=by
 have c:=List.all_eq_true.1 (uy e f) row (ui h3 g i)
 unfold chkV at c
 split at c
 .rename_i a j
  simp only[rx,decide_eq_true_eq]at c
  obtain⟨k,l,d⟩:=c
  split at d
  .rename_i n m q b hb
   simp only[rx,decide_eq_true_eq]at d
   obtain⟨rfl,rfl,rfl,rfl⟩:=d
   exact⟨a.data.toList,by rw[j,mq],k,l,by rw[mq];exact hb⟩
  .cases d
 .cases c
end Go.Proofs.YtgbippnfaoedmaaGreatDoor
