/- A product of clauses holds each clause's monitor. -/
import Derived.Test.YtleekpaohfpooaaGreatL0MD
import Derived.Test.YtleekpaohfpooaaGreatL2MD
import Derived.Test.YtleekpaohfpooaaGreatL1MD
import Derived.Test.YtleekpaohfpooaaGreatCmpMD
set_option linter.unusedVariables false
set_option linter.unusedSimpArgs false
open Bool renaming and_eq_true → rx, not_true → DD, true_and → DE
open Classical renaming byContradiction → DF
open Int renaming toNat_natCast → DH
open List renaming all_eq_true → DI, append_assoc → CS, append_nil → Ey, filter_append → D7, getD_eq_getElem?_getD → bR, getElem?_append_left → CZ, getElem?_append_right → C0, getElem?_eq_getElem → ct, getElem?_eq_none → D8, getElem?_eq_some_iff → Cu, getElem?_map → C3, getElem?_of_mem → DK, getElem?_range → Ez, getElem?_replicate → D9, length_append → Cw, length_cons → Cy, length_map → DM, length_nil → DO, length_range → Eb, length_take → C7, map_append → C8, mem_append → CA, mem_cons → CB, mem_cons_of_mem → C9, mem_filter → DQ, mem_map → Da, mem_of_getElem? → Db, mem_singleton → CC, mem_zipIdx_iff_getElem? → DS, nil_append → Er, nodup_append → DT, nodup_cons → Ed, pairwise_map → EA, replicate → De
open Nat renaming le_refl → CK, not_lt_zero → D1, sub_self → EB
open Option renaming bind → Dl, bind_some → D3, getD_some → EC
open Option.some renaming inj → Ds
open Go.Proofs.YtleekpaohfpooaaGreat.Par renaming Io → ED
namespace Go.Proofs.YtleekpaohfpooaaGreat
open Go Go.Wk Go.Proofs
def mst (c:Clause) (q x:Int):Int:=monNext c.Kind q (decide (x∈c.A)) (decide (x∈c.B))
theorem zZ {a n:Nat}{f:Int->Int->Int}{q x:Int}(b:0<=q) (d:q<a) (c:0<=x) (e:x<n):tab ((numsN a).map λq=>(numsN n).map λx=>f q x) q x=f q x:=by
 obtain⟨q,rfl⟩:=dw b
 obtain⟨x,rfl⟩:=dw c
 unfold tab numsN
 rw[DH,DH]
 simp[bR,Ez (show q<a by omega),Ez (show x<n by omega)]
theorem AG {c:Clause}{n:Nat}{q x:Int}(a:0<=q) (b:q<monStates c.Kind) (d:0<=x) (e:x<n):tab (monD c n).Next q x=mst c q x:=
 zZ (f:=λq x=>mst c q x) a b d e
structure Sm (n:Nat) (D:Det) (c:Clause) (i:Nat) (π:Int->Int):Prop where
 zero:π 0=0
 rng:∀r:Int,0<=r->r<D.Next.length->0<=π r/\π r<monStates c.Kind
 step:∀r x:Int,0<=r->r<D.Next.length->0<=x->x<n->π (tab D.Next r x)=mst c (π r) x
 pair:∃pr,D.Pairs[i]? =some pr/\∀r:Int,0<=r->r<D.Next.length->((r∈pr.Ask↔π r∈(monPair c.Kind).Ask)/\(r∈pr.Give↔π r∈(monPair c.Kind).Give))
def keyAt (K:List Key) (r:Int):Key:=(K[r.toNat]?).getD (0,0)
theorem jV {K:List Key}{r:Int}(a:0<=r) (b:r<K.length):K[r.toNat]? =some (keyAt K r):=by
 have h:K[r.toNat]? =some (K[r.toNat]'(by omega)):=ct (by omega)
 unfold keyAt
 rw[h];rfl
theorem qv {part:Key->Int}{K:List Key}{S:VI}{r:Int}(c:0<=r) (d:r<K.length):r∈plK part K S K.length↔part (keyAt K r)∈S:=by
 rw[rB]
 have hk:=jV c d
 constructor
 .rintro⟨i,h1,h2,v,a,b⟩
  have:r.toNat=i:=by omega
  rw[this,a]at hk
  cases hk
  exact b
 .intro h
  exact⟨r.toNat,by omega,by omega,_,hk,h⟩
theorem qk {c:Key->Int->Key}{k:Nat}{K:List Key}{R:VV}(h:Prod c k K K.length R){r x:Int}(j:0<=r) (m:r<K.length) (n:0<=x) (t:x<k):0<=tab R r x/\tab R r x<K.length/\keyAt K (tab R r x)=c (keyAt K r) x:=by
 have q:=h.rl
 have a:R[r.toNat]? =some (R[r.toNat]'(by omega)):=ct (by omega)
 obtain⟨_,v,e,f⟩:=h.row _ _ a
 obtain⟨x,rfl⟩:=dw n
 obtain⟨y,o,p,d⟩:=f x (by omega)
 have b:=jV j m
 rw[e]at b
 have i:v=keyAt K r:=Ds b
 have g:tab R r (x:Int)=y:=by
  unfold tab
  rw[bR (l:=R),a,EC,bR,DH,o,EC]
 have s:=(Cu.1 d).1
 rw[g]
 refine⟨p,by omega,?_⟩
 rw[← i]
 unfold keyAt
 rw[d];rfl
theorem PR.len {n:Nat}{cs:VC}{D:Det}(h:PR n cs D):D.Pairs.length=cs.length:=by
 induction h with
 |nil=>rfl
 | @snoc cs c D b R d k a=>
  show(D.Pairs.map _++[_]).length=_
  rw[Cw,DM,Cw,a];rfl
theorem PR.sm {p:Sig}{n:Nat}(hn:ltd p=n):∀{cs:VC}{D:Det},PR n cs D->(∀c∈cs,cZ p c=true)->∀(i:Nat) c,cs[i]? =some c->∃π,Sm n D c i π:=λ{cs D} h=>by
 induction h with
 |nil=>intro _ i c j;simp at j
 | @snoc cs l D b R I k K=>
  intro H i c j
  have m:(jD D (monD l n) b R).Next=R:=rfl
  have O:R.length=b.length:=k.prod.rl
  have v:(jD D (monD l n) b R).Pairs=D.Pairs.map (plP (·.1) b)++(monD l n).Pairs.map (plP (·.2) b):=rfl
  have E:D.Pairs.length=cs.length:=I.len
  have z:keyAt b 0=(0,0):=by
   unfold keyAt
   rw[show(0:Int).toNat=0 from rfl,k.prod.zero];rfl
  have o:∀a:Int,0<=a->a<R.length->0<=(keyAt b a).1/\(keyAt b a).1<D.Next.length/\0<=(keyAt b a).2/\(keyAt b a).2<(monD l n).Next.length:=λa d e=>
   k.kin _ (Db (jV d (by omega)))
  have y:(monD l n).Next.length=monStates l.Kind:=by
   show((numsN _).map _).length=_
   rw[DM,jk]
  by_cases G:i<cs.length
  .rw[CZ G]at j
   obtain⟨π,t⟩:=K (λc j=>H c (List.mem_append_left _ j)) i c j
   refine⟨λa=>π (keyAt b a).1,⟨by show π (keyAt b 0).1=0;rw[z];exact t.zero,λa d e=>?_,λa x d e r s=>?_,?_⟩⟩
   .obtain⟨g,f,_,_⟩:=o a d e
    exact t.rng _ g f
   .obtain⟨g,f,_,_⟩:=o a d e
    have u:=(qk k.prod d (by rw[m]at e;omega) r s).2.2
    rw[m]
    show π (keyAt b (tab R a x)).1=_
    rw[u]
    exact t.step _ x g f r s
   .obtain⟨N,L,M⟩:=t.pair
    refine⟨plP (·.1) b N,?_,λa d e=>?_⟩
    .rw[v,CZ (by rw[DM];omega),C3,L];rfl
    .obtain⟨g,f,_,_⟩:=o a d e
     have q:a<b.length:=by rw[m]at e;omega
     obtain⟨A,B⟩:=M _ g f
     exact⟨(qv d q).trans A,(qv d q).trans B⟩
  .have w:=(Cu.1 j).1
   rw[Cw]at w
   simp only[Cy,DO]at w
   have C:i=cs.length:=by omega
   subst C
   have F:c=l:=by simp at j;exact j.symm
   subst F
   refine⟨λa=>(keyAt b a).2,⟨by show(keyAt b 0).2=0;rw[z],λa d e=>?_,λa x d e r s=>?_,?_⟩⟩
   .obtain⟨_,_,g,f⟩:=o a d e
    rw[y]at f
    exact⟨g,f⟩
   .obtain⟨_,_,g,f⟩:=o a d e
    rw[y]at f
    have u:=(qk k.prod d (by rw[m]at e;omega) r s).2.2
    rw[m]
    show(keyAt b (tab R a x)).2=_
    rw[u]
    exact AG g f r s
   .refine⟨plP (·.2) b (monPair c.Kind),?_,λa d e=>?_⟩
    .rw[v,C0 (by rw[DM];omega),DM,E,EB];rfl
    .have q:a<b.length:=by rw[m]at e;omega
     exact⟨qv d q,qv d q⟩
structure Stq (p:Sig) (cs:VC) (d:Det) (n m k:Nat) (A:Arena) (P:VL) (g:Parity) (W:Int->Prop) (pk:VI):Prop where
 det:detOk p d=true
 im:pw p.In=(m:Int)
 ok:pw p.Out=(k:Int)
 cx:Cx d n m k A P g W pk
 prd:∃N:Nat,ltd p=N/\PR N cs d
theorem AQ {k:Nat}(hk:k<=2){n:Nat}{u v:Place}(d:VOk n k u) (e:VOk n k v) (h:u.At=v.At) (c:u.Record.headD 0=v.Record.headD 0):u=v:=by
 obtain⟨o,l⟩:=u
 obtain⟨s,m⟩:=v
 dsimp only at h c
 subst h
 have a:=d.rl
 have b:=e.rl
 have f:=d.rin
 have g:=e.rin
 have i:=d.nd
 have j:=e.nd
 dsimp only at a b f g i j
 congr 1
 match l,m with
 | [],[]=>rfl
 | [],_::_=>simp at a b;omega
 |_::_,[]=>simp at a b;omega
 | [x],[y]=>simp at c;rw[c]
 | [x],_::_::_=>simp at a b;omega
 |_::_::_,[y]=>simp at a b;omega
 | [x,x'],[y,y']=>
  simp at c i j
  have p:=f x (by simp)
  have q:=f x' (by simp)
  have r:=g y' (by simp)
  have:x'=y':=by omega
  rw[c,this]
 | [_,_],_::_::_::_=>simp at a b;omega
 |_::_::_::_,_=>simp at a;omega
theorem ss {k:Nat}(hk:k<=2){n c:Nat}{P:VL}(hn:P.Nodup) (b:∀v∈P,VOk n k v/\v.At<c):P.length<=2 * c:=by
 have h1:(P.map λv=>2 * v.At+v.Record.headD 0).Nodup:=by
  unfold List.Nodup
  rw[EA]
  refine List.Pairwise.imp_of_mem (λ{j v} m o l i=>l ?_) hn
  have f:=(b j m).1
  have g:=(b v o).1
  have hd:∀w:Place,VOk n k w->0<=w.Record.headD 0/\w.Record.headD 0<2:=λw p=>by
   have d:=p.rin
   cases a:w.Record with
   |nil=>simp
   |cons x r=>
    have:=d x (by rw[a];simp)
    simp
    omega
  have t:=hd j f
  have u:=hd v g
  exact AQ hk f g (by omega) (by omega)
 have:=dx (2 * c) _ h1 λx q=>by
  obtain⟨v,hm,i⟩:=Da.1 q
  obtain⟨e,s⟩:=b v hm
  have:=e.a0
  have d:=e.rin
  subst i
  cases a:v.Record with
  |nil=>simp;omega
  |cons y r=>
   have:=d y (by rw[a];simp)
   simp
   omega
 rwa [DM]at this
theorem se {d:Det}{n m k:Nat}{A:Arena}{P:VL}{g:Parity}{W:Int->Prop}{pk:VI}(h:Cx d n m k A P g W pk) (hn:n<=16) (hk:d.Pairs.length<=2){F:VI}(j:Names P.length F) (ha:∀x∈F,atP P x<(n:Int)):F.length<=32:=by
 have i:∀x∈F,∃v,P[x.toNat]? =some v/\idx P x=some v/\0<=x:=λx a=>by
  obtain⟨h0,h1⟩:=j.2 x a
  obtain⟨v,f,_⟩:=iX (xs:=P) h0 h1
  exact⟨v,by rw[← cH h0];exact f,f,h0⟩
 have h1:(F.map λx=>P.getD x.toNat ⟨0,[]⟩).Nodup:=by
  unfold List.Nodup
  rw[EA]
  refine List.Pairwise.imp_of_mem (λ{x y} a s r b=>r ?_) j.1
  obtain⟨l,e,_,z⟩:=i x a
  obtain⟨v,o,_,B⟩:=i y s
  rw[bR,bR,e,o,EC,EC]at b
  subst b
  obtain⟨u,p⟩:=Cu.1 e
  obtain⟨w,q⟩:=Cu.1 o
  have:=(List.getElem_inj h.rg.game.nod).1 (p.trans q.symm)
  omega
 have:=ss hk (c:=n) h1 λv f=>by
  obtain⟨x,a,b⟩:=Da.1 f
  obtain⟨l,e,t,_⟩:=i x a
  rw[bR,e,EC]at b
  subst b
  have:=ha x a
  rw[eT t]at this
  exact⟨h.rg.game.inn l (Db e),this⟩
 rw[DM]at this
 omega
theorem Stp3.q {p:Sig}{cs:VC}{d:Det}{n m k:Nat}{A:Arena}{P:VL}{g:Parity}{W:Int->Prop}{pk:VI}(S2:Stp2 p cs d A) (S:Stp3 p cs d n m k A P g W pk):Stq p cs d n m k A P g W pk:=⟨S.det,S.im,S.ok,S.cx,S2.prd⟩
theorem small {p:Sig}(hs:sigOk p=true){cs:VC}(l:∀c∈cs,Clause.bd c) (o:∀c∈cs,cZ p c=true) (h2:cs.length<=2):∃d A n m k P g W pk,cO p cs=some (d,true)/\dh p cs=some (d,true)/\Stp2 p cs d A/\Stp3 p cs d n m k A P g W pk/\n<=16/\d.Pairs.length<=2:=by
 have q:dB p cs=true:=by
  unfold dB
  rw[decide_eq_true (by omega),DI.2 o];rfl
 rcases setup p l with ⟨_,_,i⟩|⟨d,A,h1,f,S2,j⟩
 .have:=i hs q
  omega
 .obtain⟨N,t,a⟩:=S2.prd
  have z:=a.size
  have x:=a.len
  have s:4 ^ cs.length<=4 ^ 2:=Nat.pow_le_pow_right (by omega) h2
  obtain⟨m,hm,u⟩:=S2.al
  have y:=gG p.In
  have w:d.Next.length * m<=16 * 4:=Nat.mul_le_mul (by omega) (by omega)
  rcases j with ⟨_,_,P,B,r,e⟩|⟨n,m,k,P,g,W,pk,S⟩
  .have:=ss (k:=d.Pairs.length) (by omega) (c:=A.Owner.length) r λv b=>⟨e v b,(e v b).a1⟩
   omega
  .refine⟨d,A,n,m,k,P,g,W,pk,h1,f,S2,S,?_,by omega⟩
   have:=S.cx.dl
   omega
def Sat (c:Clause) (L:Nat->Int):Prop:=
 if c.Kind=1 then ∀t,L t∈c.A
 else if c.Kind=2 then ∀t,L t∈c.A->L (t+1)∈c.B
 else if c.Kind=3 then ∀t,L t∈c.A->∃a,t<=a/\L a∈c.B
 else if c.Kind=4 then ED λt=>L t∈c.A
 else if c.Kind=5 then ¬ED λt=>L t∉c.A
 else if c.Kind=6 then ∃t,L t∈c.A
 else(ED λt=>L t∈c.A)->ED λt=>L t∈c.B
def mrun (c:Clause) (L:Nat->Int):Nat->Int
 |0=>0
 |t+1=>mst c (mrun c L t) (L t)
def Well (A G:VI) (s:Nat->Int):Prop:=(ED λt=>s t∈A)->ED λt=>s t∈G
theorem Ay {S:Nat->Prop}:(ED λt=>S (t+1))↔ED S:=⟨λh N=>by
 obtain⟨m,h1,h2⟩:=h N
 exact⟨m+1,by omega,h2⟩,λh N=>by
 obtain⟨m,h1,h2⟩:=h (N+1)
 exact⟨m-1,by omega,by show S (m-1+1);rwa [show m-1+1=m by omega]⟩⟩
theorem jC {S T:Nat->Prop}(h:∀t,S t↔T t):ED S↔ED T:=by
 rw[show S=T from funext λt=>propext (h t)]
theorem pW {S T:Nat->Prop}(h:∀t,S (t+1)↔T t):ED S↔ED T:=Ay.symm.trans (jC h)
theorem sk {s E:Nat->Prop}(h0:¬s 0) (h:∀t,s (t+1)↔s t\/E t):(ED s↔∃t,E t)/\((ED λt=>¬s t)↔∀t,¬E t)/\∀t,s t->∃a,E a:=by
 have f:∀t,s t↔∃a,a<t/\E a:=λt=>by
  induction t with
  |zero=>exact⟨λhs=>absurd hs h0,λ⟨a,c,_⟩=>absurd c (D1 a)⟩
  |succ t i=>
   rw[h,i]
   constructor
   .rintro(⟨a,h1,h2⟩|h2)
    .exact⟨a,by omega,h2⟩
    .exact⟨t,by omega,h2⟩
   .rintro⟨a,h1,h2⟩
    by_cases g:a=t
    .subst g;exact .inr h2
    .exact .inl ⟨a,by omega,h2⟩
 have d:∀t,s t->∃a,E a:=λt b=>((f t).1 b).elim λa c=>⟨a,c.2⟩
 refine⟨⟨λe=>?_,λ⟨t,b⟩ N=>⟨max N (t+1),by omega,(f _).2 ⟨t,by omega,b⟩⟩⟩,⟨λe t b=>?_,λhn N=>⟨N,CK _,λhs=>?_⟩⟩,d⟩
 .obtain⟨m,_,hm⟩:=e 0
  exact d m hm
 .obtain⟨m,h1,h2⟩:=e (t+1)
  exact h2 ((f m).2 ⟨t,by omega,b⟩)
 .obtain⟨a,c⟩:=d N hs
  exact hn a c
section
variable {c:Clause}{L:Nat->Int}(k1:1<=c.Kind) (k7:c.Kind<=7)
include k1 k7
theorem rz:∀t,0<=mrun c L t/\mrun c L t<monStates c.Kind
 |0=>by
  show(0:Int)<=0/\(0:Int)<_
  unfold monStates
  (repeat' split) <;> omega
 |t+1=>sf k1 k7 (rz t).1 (rz t).2 _ _
theorem vd:Sat c L↔Well (monPair c.Kind).Ask (monPair c.Kind).Give (mrun c L):=by
 have f:=rz (L:=L) k1 k7
 have d:∀t,mrun c L (t+1)=monNext c.Kind (mrun c L t) (decide (L t∈c.A)) (decide (L t∈c.B)):=λt=>rfl
 have h0:mrun c L 0=0:=rfl
 generalize mrun c L=s at *
 have F:¬ED λt=>s t∈([]:VI):=λh=>by
  obtain⟨m,_,hm⟩:=h 0
  cases hm
 have nw:∀A,Well A [] s↔¬ED λt=>s t∈A:=λA=>⟨λh g=>F (h g),λh g=>absurd g h⟩
 have j:∀q:Int,(ED λt=>s t∈[q])↔ED λt=>s t=q:=λq=>jC λt=>CC
 unfold Sat
 rcases kinds k1 k7 with k|k|k|k|k|k|k <;> rw[k]at f d ⊢ <;> simp only[monNext,monStates,b01,mx]at f d <;> simp(config:={ decide:=true }) only[if_true,if_false]at f d ⊢
 .show _↔Well [1] [] s
  have n:=sk (s:=λt=>s t=1) (E:=λt=>L t∉c.A) (by simp[h0]) (λt=>by
   rw[d]
   rcases(show s t=0\/s t=1 by have:=f t;omega) with a|a <;> by_cases h:L t∈c.A <;> simp[a,h])
  rw[nw,j,n.1]
  exact⟨λh ⟨t,i⟩=>i (h t),λh t=>DF λhn=>h ⟨t,hn⟩⟩
 .show _↔Well [2] [] s
  have n:=sk (s:=λt=>s t=2) (E:=λt=>s t=1/\L t∉c.B) (by simp[h0]) (λt=>by
   rw[d]
   by_cases e:L t∈c.B <;> by_cases a:s t=2 <;> by_cases l:s t=1 <;> by_cases ha:L t∈c.A <;> simp_all)
  rw[nw,j,n.1]
  refine⟨λh ⟨t,h1,h2⟩=>?_,λh t ha=>DF λhn=>h ?_⟩
  .cases t with
   |zero=>rw[h0]at h1;cases h1
   |succ t=>
    refine h2 (h t ?_)
    rw[d]at h1
    by_cases ha:L t∈c.A
    .exact ha
    .exfalso
     simp only[ha,decide_false]at h1
     split at h1 <;> simp at h1
  .by_cases a:s (t+1)=2
   .exact n.2.2 _ a
   .refine⟨t+1,?_,hn⟩
    rw[d]at a ⊢
    split at a
    .exact absurd rfl a
    .rename_i z
     rw[if_neg z,decide_eq_true ha];rfl
 .show _↔Well [1] [0] s
  unfold Well
  rw[j,j]
  constructor
  .intro h H N
   apply DF
   intro hn
   have h1:∀t,N<=t->s t=1:=λt i=>by
    have:=f t
    have:¬s t=0:=λa=>hn ⟨t,i,a⟩
    omega
   -- from when on it waits
   have D:∀t,s t=1->∃b,b<t/\L b∈c.A/\∀v,b<=v->v<t->L v∉c.B:=λt=>by
    induction t with
    |zero=>intro a;rw[h0]at a;cases a
    |succ t r=>
     intro a
     rw[d]at a
     by_cases e:L t∈c.B
     .simp[e]at a
     .by_cases l:s t=1
      .obtain⟨b,G,u,w⟩:=r l
       exact⟨b,by omega,u,λv o p=>by
        by_cases y:v=t
        .subst y;exact e
        .exact w v o (by omega)⟩
      .by_cases ha:L t∈c.A
       .exact⟨t,by omega,ha,λv o p=>by rw[show v=t by omega];exact e⟩
       .exfalso
        have:=f t
        have:s t=0:=by omega
        simp[e,ha,this]at a
   obtain⟨b,G,u,w⟩:=D N (h1 N (CK _))
   obtain⟨v,o,p⟩:=h b u
   by_cases C:v<N
   .exact w v o C p
   .have:=h1 (v+1) (by omega)
    rw[d]at this
    simp[p]at this
  .intro h t ha
   apply DF
   intro hn
   have h1:∀b,t<b->s b=1:=λb=>by
    induction b with
    |zero=>intro B;omega
    |succ b r=>
     intro B
     have e:L b∉c.B:=λe=>hn ⟨b,by omega,e⟩
     rw[d]
     by_cases a:t=b
     .subst a
      have:=f t
      by_cases l:s t=1
      .simp[e,ha,l]
      .have:s t=0:=by omega
       simp[e,ha,this]
     .have l:=r (by omega)
      by_cases ha:L b∈c.A <;> simp[e,ha,l]
   obtain⟨m,I,x⟩:=h (λN=>⟨max N (t+1),by omega,h1 _ (by omega)⟩) (t+1)
   rw[h1 m (by omega)]at x
   cases x
 .show _↔Well [0,1] [1] s
  unfold Well
  rw[j,pW (S:=λt=>s t=1) (T:=λt=>L t∈c.A) (λt=>by rw[d];by_cases h:L t∈c.A <;> simp[h])]
  exact⟨λh _=>h,λh=>h λN=>⟨N,CK _,by have:=f N;simp;omega⟩⟩
 .show _↔Well [1] [] s
  rw[nw,j,pW (S:=λt=>s t=1) (T:=λt=>L t∉c.A) (λt=>by rw[d];by_cases h:L t∈c.A <;> simp[h])]
 .show _↔Well [0] [] s
  have n:=sk (s:=λt=>s t=1) (E:=λt=>L t∈c.A) (by simp[h0]) (λt=>by
   rw[d]
   rcases(show s t=0\/s t=1 by have:=f t;omega) with a|a <;> by_cases h:L t∈c.A <;> simp[a,h])
  rw[nw,j,jC (S:=λt=>s t=0) (T:=λt=>¬s t=1) (λt=>by have:=f t;omega),n.2.1]
  exact⟨λ⟨t,i⟩ h=>h t i,λh=>DF λhn=>h λt i=>hn ⟨t,i⟩⟩
 .show _↔Well [2,3] [1,3] s
  unfold Well
  rw[pW (S:=λt=>s t∈[2,3]) (T:=λt=>L t∈c.A) (λt=>by rw[d];by_cases h:L t∈c.A <;> by_cases g:L t∈c.B <;> simp[h,g]),
   pW (S:=λt=>s t∈[1,3]) (T:=λt=>L t∈c.B) (λt=>by rw[d];by_cases h:L t∈c.A <;> by_cases g:L t∈c.B <;> simp[h,g])]
end
def ixW (s l t:Nat):Nat:=if t<s then t else s+(t-s) % l
def ltW (w:Word) (t:Nat):Int:=(w.Stem++w.Loop).getD (ixW w.Stem.length w.Loop.length t) 0
section
variable {w:Word}(hl:0<w.Loop.length)
include hl
theorem Bu (t:Nat):ixW w.Stem.length w.Loop.length t<(w.Stem++w.Loop).length:=by
 have:=Nat.mod_lt (t-w.Stem.length) hl
 unfold ixW
 rw[Cw]
 split <;> omega
theorem uB (t:Nat):(w.Stem++w.Loop)[ixW w.Stem.length w.Loop.length t]? =some (ltW w t):=by
 unfold ltW
 rw[bR,ct (Bu hl t)];rfl
omit hl in
theorem zh {i:Nat}(hi:i<(w.Stem++w.Loop).length):ixW w.Stem.length w.Loop.length i=i:=by
 rw[Cw]at hi
 unfold ixW
 split
 .rfl
 .rw[Nat.mod_eq_of_lt (by omega)];omega
theorem Bv {i:Nat}{x:Int}(h:(w.Stem++w.Loop)[i]? =some x):ltW w i=x:=by
 have:=uB hl i
 rw[zh (Cu.1 h).1,h]at this
 exact(Ds this).symm
theorem AD (t:Nat):ltW w t∈w.Stem++w.Loop:=Db (uB hl t)
end
def rowOk (p:Sig) (m:Machine) (i:Nat) (row:VI):Bool:=
 match m.Out[i]? with
 |some a=>((row.length:Int)==pw p.In)&&((a.length:Int)==(row.length:Int))&&row.all (inR (m.Next.length:Int))&&a.all (inR (pw p.Out))
 |none=>false
def machOk (p:Sig) (m:Machine):Bool:=decide (1<=(m.Next.length:Int))&&decide ((m.Next.length:Int)<=48)&&((m.Out.length:Int)==(m.Next.length:Int))&&m.Next.zipIdx.all (λx=>rowOk p m x.2 x.1)
theorem sE (p:Sig) (m:Machine):kx p m=some (sigOk p&&machOk p m):=by
 unfold kx machOk
 rw[ib,D3]
 cases hs:sigOk p with
 |false=>rfl
 |true=>
  obtain⟨e,g⟩:=eJ hs
  have l:=gG p.In
  have o:=gG p.Out
  simp only[DD,cond_false,dP,D3,DE]
  cases h1:(decide (1<=(m.Next.length:Int))&&decide ((m.Next.length:Int)<=48)) with
  |false=>rfl
  |true=>
   simp only[rx,decide_eq_true_eq]at h1
   simp only[DD,cond_false,D3,DE,bne]
   cases h2:((m.Out.length:Int)==(m.Next.length:Int)) with
   |false=>rfl
   |true=>
    have h2:=beq_iff_eq.1 h2
    rw[ll (f:=g8 p m) (r:=false) (rowOk p m) (xs:=m.Next) rfl (λi a d=>by
     have k:=(Cu.1 d).1
     obtain⟨b,c⟩:∃b,m.Out[i]? =some b:=⟨_,ct (by omega)⟩
     have j:rowOk p m i a=(((a.length:Int)==pw p.In)&&((b.length:Int)==(a.length:Int))&&a.all (inR (m.Next.length:Int))&&b.all (inR (pw p.Out))):=by unfold rowOk;rw[c]
     rw[j]
     unfold g8
     rw[bT,bT,d,c]
     simp only[D3,mb,eP e,eP g,mF a (n:=(m.Next.length:Int)) (by omega) (by omega),mF b (n:=pw p.Out) (by omega) (by omega),bne]
     generalize((a.length:Int)==pw p.In)=b1
     generalize((b.length:Int)==(a.length:Int))=b2
     generalize a.all (inR (m.Next.length:Int))=b3
     generalize b.all (inR (pw p.Out))=b4
     cases b1 <;> cases b2 <;> cases b3 <;> cases b4 <;> rfl)]
    simp only[DD,cond_false,D3,DE]
    cases List.all m.Next.zipIdx (λx=>rowOk p m x.2 x.1) <;> rfl
theorem lC {p:Sig}(hs:sigOk p=true) (m:Machine):jg p m=some (machOk p m):=by
 unfold jg machOk
 obtain⟨j,c⟩:=eJ hs
 simp only[orE,D3,qo,bne]
 rw[← Bool.not_and,← Bool.not_and]
 cases h1:(decide (1<=(m.Next.length:Int))&&decide ((m.Next.length:Int)<=48)&&((m.Out.length:Int)==(m.Next.length:Int))) with
 |false=>rfl
 |true=>
  simp only[rx,decide_eq_true_eq,beq_iff_eq]at h1
  simp only[DD,cond_false,D3,DE]
  rw[ll (f:=gO p m) (r:=false) (rowOk p m) (xs:=m.Next) rfl (λi a e=>by
   have k:=(Cu.1 e).1
   obtain⟨b,d⟩:∃b,m.Out[i]? =some b:=⟨_,ct (by omega)⟩
   have g:rowOk p m i a=(((a.length:Int)==pw p.In)&&((b.length:Int)==(a.length:Int))&&a.all (inR (m.Next.length:Int))&&b.all (inR (pw p.Out))):=by unfold rowOk;rw[d]
   rw[g]
   unfold gO
   rw[bT,bT,e,d]
   simp only[D3,gi hs,(oG c).1,(oG c).2,nJ,bne]
   generalize((a.length:Int)==pw p.In)=b1
   generalize((b.length:Int)==(a.length:Int))=b2
   generalize a.all (inR (m.Next.length:Int))=b3
   generalize b.all (inR (pw p.Out))=b4
   cases b1 <;> cases b2 <;> cases b3 <;> cases b4 <;> rfl)]
  cases List.all m.Next.zipIdx (λx=>rowOk p m x.2 x.1) <;> rfl
theorem dm {p:Sig}{m:Machine}(h:machOk p m=true):1<=m.Next.length/\m.Next.length<=48/\m.Out.length=m.Next.length /\
 (∀a∈m.Next,RowIn m.Next.length (pw p.In) a)/\(∀a∈m.Out,RowIn (pw p.Out) (pw p.In) a):=by
 simp only[machOk,rx,decide_eq_true_eq,beq_iff_eq]at h
 obtain⟨⟨⟨h1,h2⟩,o⟩,f⟩:=h
 rw[DI]at f
 have j:∀(i:Nat) a,m.Next[i]? =some a->∃b,m.Out[i]? =some b/\RowIn m.Next.length (pw p.In) a/\RowIn (pw p.Out) (pw p.In) b:=λi a e=>by
  have:=f (a,i) (DS.2 e)
  unfold rowOk at this
  cases d:m.Out[i]? with
  |none=>simp[d]at this
  |some b=>
   simp only[d,rx,beq_iff_eq,DI,gE]at this
   obtain⟨⟨⟨k1,r⟩,l⟩,n⟩:=this
   exact⟨b,rfl,⟨k1,l⟩,⟨by omega,n⟩⟩
 refine⟨by omega,by omega,by omega,λa e=>?_,λb d=>?_⟩
 .obtain⟨i,c⟩:=List.mem_iff_getElem?.1 e
  exact(j i a c).choose_spec.2.1
 .obtain⟨i,c⟩:=List.mem_iff_getElem?.1 d
  have q:=(Cu.1 c).1
  obtain⟨s,g,_,k⟩:=j i _ (ct (by omega))
  rw[c]at g
  cases g
  exact k
theorem yC {p:Sig}{m:Machine}(h1:1<=m.Next.length) (h2:m.Next.length<=48) (f:m.Out.length=m.Next.length) (g:∀a∈m.Next,RowIn m.Next.length (pw p.In) a) (j:∀a∈m.Out,RowIn (pw p.Out) (pw p.In) a):machOk p m=true:=by
 unfold machOk
 rw[f]
 simp only[rx,decide_eq_true_eq,beq_self_eq_true,and_true,DI]
 refine⟨by omega,λx b=>?_⟩
 obtain⟨a,i⟩:=x
 rw[DS]at b
 have b:m.Next[i]? =some a:=b
 have l:=(Cu.1 b).1
 have k:m.Out[i]? =some (m.Out[i]'(by omega)):=ct (by omega)
 have d:=j _ (List.getElem_mem (by omega:i<m.Out.length))
 obtain⟨c,e⟩:=g a (Db b)
 unfold rowOk
 rw[k]
 simp only[rx,beq_iff_eq,DI,gE]
 exact⟨⟨⟨c,by rw[c];exact d.1⟩,e⟩,d.2⟩
def seg (X:Nat->Int):Nat->Nat->VI
 |_,0=>[]
 |t,n+1=>X t::seg X (t+1) n
theorem vg (X:Nat->Int):∀n t,(seg X t n).length=n
 |0,_=>rfl
 |n+1,t=>congrArg (· + 1) (vg X n (t+1))
theorem yf (X:Nat->Int):∀n t i,i<n->(seg X t n)[i]? =some (X (t+i))
 |n+1,t,0,_=>rfl
 |n+1,t,i+1,h=>by
  show(seg X (t+1) n)[i]? =_
  rw[yf X n (t+1) i (by omega),show t+1+i=t+(i+1) by omega]
theorem ye {X:Nat->Int}{xs:VI}{t:Nat}(h:∀i x,xs[i]? =some x->X (t+i)=x):xs=seg X t xs.length:=List.ext_getElem? λi=>by
 by_cases a:i<xs.length
 .rw[yf X _ t i a,ct a,h i _ (ct a)]
 .rw[D8 (by omega),D8 (by rw[vg];omega)]
theorem zp {w:Word}(c:0<w.Loop.length) (j:Nat):w.Loop=seg (ltW w) (w.Stem.length+j * w.Loop.length) w.Loop.length:=ye λi x a=>by
 have b:=(Cu.1 a).1
 have:=uB c (w.Stem.length+j * w.Loop.length+i)
 unfold ixW at this
 rw[if_neg (by omega),show w.Stem.length+j * w.Loop.length+i-w.Stem.length=i+w.Loop.length * j by rw[Nat.mul_comm];omega,Nat.add_mul_mod_self_left,Nat.mod_eq_of_lt b,C0 (by omega),show w.Stem.length+i-w.Stem.length=i by omega,a]at this
 exact(Ds this).symm
def runM (m:Machine) (I:Nat->Int):Nat->Int
 |0=>0
 |t+1=>tab m.Next (runM m I t) (I t)
def letM (p:Sig) (m:Machine) (I:Nat->Int) (t:Nat):Int:=tab m.Out (runM m I t) (I t) * pw p.In+I t
section
variable {p:Sig}{m:Machine}(hm:machOk p m=true)
include hm
theorem uN {I:Nat->Int}(hI:∀t,0<=I t/\I t<pw p.In):∀t,0<=runM m I t/\runM m I t<m.Next.length
 |0=>by
  obtain⟨d,_⟩:=dm hm
  show(0:Int)<=0/\(0:Int)<_
  omega
 |t+1=>by
  obtain⟨_,_,_,a,_⟩:=dm hm
  obtain⟨_,_,_,b,c⟩:=mJ a (uN hI t).1 (uN hI t).2 (hI t).1 (hI t).2
  exact⟨b,c⟩
end
theorem pY (f:Int->Bool) (xs:VI) (p:Nat):∀n:Nat,dj f xs n<(p:Int)↔∀(j:Nat) x,p<=j->j<n->xs[j]? =some x->f x=false
 |0=>⟨λ_ j x _ h=>absurd h (D1 j),λ_=>by unfold dj;omega⟩
 |n+1=>by
  have e:=pY f xs p n
  have g:∀j,j<n+1->j<n\/j=n:=λj hj=>by omega
  unfold dj
  cases d:xs[n]? with
  |none=>
   dsimp only
   rw[cond_false,e]
   exact⟨λh j x h1 h2 a=>(g j h2).elim (λh2=>h j x h1 h2 a) λb=>by(subst b;rw[d]at a;cases a),λh j x h1 h2=>h j x h1 (by omega)⟩
  |some y=>
   dsimp only
   cases c:f y with
   |true=>
    rw[cond_true]
    refine⟨λh j x h1 h2=>by omega,λh=>DF λhn=>?_⟩
    rw[h n y (by omega) (by omega) d]at c
    cases c
   |false=>
    rw[cond_false,e]
    exact⟨λh j x h1 h2 a=>(g j h2).elim (λh2=>h j x h1 h2 a) λb=>by(subst b;rw[d]at a;cases a;exact c),λh j x h1 h2=>h j x h1 (by omega)⟩
theorem r8 {f:Int->Bool}{xs:VI}{j:Nat}:∀{n:Nat},dj f xs n=(j:Int)->∃x,xs[j]? =some x/\f x=true
 |0,h=>by unfold dj at h;omega
 |n+1,h=>by
  unfold dj at h
  cases b:xs[n]? with
  |none=>
   rw[b]at h
   dsimp only at h
   rw[cond_false]at h
   exact r8 h
  |some y=>
   rw[b]at h
   dsimp only at h
   cases a:f y with
   |true=>
    rw[a,cond_true]at h
    have:n=j:=by omega
    subst this
    exact⟨y,b,a⟩
   |false=>
    rw[a,cond_false]at h
    exact r8 h
theorem oa (ps:VP) (rc:VI) (v:Int):(lM ps rc v=0/\dj (askI ps v) rc rc.length<0/\dj (de ps v) rc rc.length<0) \/
 (dj (de ps v) rc rc.length<dj (askI ps v) rc rc.length/\lM ps rc v=2 * dj (askI ps v) rc rc.length+1)\/(dj (askI ps v) rc rc.length<=dj (de ps v) rc rc.length/\0<=dj (de ps v) rc rc.length/\lM ps rc v=2 * dj (de ps v) rc rc.length+2):=by
 have b:=jE (askI ps v) rc rc.length
 have g:=jE (de ps v) rc rc.length
 unfold lM
 generalize dj (askI ps v) rc rc.length=x at *
 generalize dj (de ps v) rc rc.length=y at *
 by_cases h1:x<0 <;> by_cases h2:y<0 <;> by_cases a:y<x <;> simp[h1,h2,a] <;> omega
theorem frozen {G:Int->Bool}{xs:VI}{p:Nat}(h:∀(j:Nat) x,p<=j->xs[j]? =some x->G x=false){j:Nat}(hj:p<=j):(xs.filter G++xs.filter λx=> !G x)[j]? =xs[j]?:=by
 have hd:∀x∈xs.drop p,G x=false:=λx a=>by
  obtain⟨i,b⟩:=DK a
  rw[List.getElem?_drop]at b
  exact h _ x (by omega) b
 have h1:(xs.drop p).filter G=[]:=List.filter_eq_nil_iff.2 λx a=>by rw[hd x a];simp
 have h2:((xs.drop p).filter λx=> !G x)=xs.drop p:=List.filter_eq_self.2 λx a=>by rw[hd x a];rfl
 have c:=List.take_append_drop p xs
 have d:=nk G (xs.take p)
 have e:(xs.take p).length<=p:=by rw[C7];omega
 conv=>rw[← c]
 rw[D7,D7,h1,h2,Ey,← CS,C0 (by rw[Cw];omega),C0 (by omega),Cw,d]
theorem moved {G:Int->Bool}{xs:VI}{p:Nat}{i:Int}(e:xs[p]? =some i) (hi:G i=false):∃b,p<=b/\(xs.filter G++xs.filter λx=> !G x)[b]? =some i/\(b=p->∀(j:Nat) x,p<=j->xs[j]? =some x->G x=false):=by
 obtain⟨A,B,c,k⟩:∃A B,xs=A++i::B/\A.length=p:=by
  obtain⟨hl,f⟩:=Cu.1 e
  refine⟨xs.take p,xs.drop (p+1),?_,by rw[C7];omega⟩
  have:=List.drop_eq_getElem_cons hl
  rw[f]at this
  rw[← this,List.take_append_drop]
 subst c
 have g:=nk G A
 refine⟨p+(B.filter G).length,by omega,?_,λc j x hj a=>?_⟩
 .rw[D7,D7,List.filter_cons_of_neg (by rw[hi];simp),List.filter_cons_of_pos (by rw[hi];rfl),C0 (by rw[Cw];omega),C0 (by rw[Cw];omega),Cw]
  rw[show p+(B.filter G).length-((A.filter G).length+(B.filter G).length)-(A.filter λx=> !G x).length=0 by omega];rfl
 .have d:B.filter G=[]:=List.length_eq_zero_iff.1 (by omega)
  rw[C0 (by omega)]at a
  match hq:j-A.length,a with
  |0,a=>cases a;exact hi
  |q+1,a=>
   have:=List.filter_eq_nil_iff.1 d x (Db a)
   simpa using this
theorem y7 {Q:Nat->Prop}:∀{b:Nat},(∃n,Q n)->(∀n,Q n->n<b)->∃n,Q n/\∀m,Q m->m<=n
 |0,⟨n,hn⟩,hb=>absurd (hb n hn) (D1 n)
 |b+1,h,hb=>by
  by_cases a:Q b
  .exact⟨b,a,λm hm=>by have:=hb m hm;omega⟩
  .exact y7 (b:=b) h λn hn=>by
    have:=hb n hn
    have:n≠b:=λc=>a (c ▸ hn)
    omega
section
variable {ps:VP}{k:Nat}{v:Nat->Int}{rc:Nat->VI}(hk:∀t,(rc t).length=k) (hn:∀t,rc (t+1)=gF ps (rc t) (v t)){d:Int}(hio:ED λt=>lM ps (rc t) (v t)=d){N:Nat}(hle:∀t,N<=t->lM ps (rc t) (v t)<=d)
include hk hn hio hle
omit hk in
theorem AJ (hd:d % 2=1):∃i,i∈rc 0/\(ED λt=>askI ps (v t) i=true)/\¬ED λt=>de ps (v t) i=true:=by
 obtain⟨a,ha⟩:∃a:Nat,d=2 * (a:Int)+1:=by
  obtain⟨t,_,k⟩:=hio 0
  have:=jE (askI ps (v t)) (rc t) (rc t).length
  have:=jE (de ps (v t)) (rc t) (rc t).length
  rcases oa ps (rc t) (v t) with h|h|h
  .omega
  .exact⟨(dj (askI ps (v t)) (rc t) (rc t).length).toNat,by omega⟩
  .omega
 have r:∀t,N<=t->∀(j:Nat) x,a<=j->(rc t)[j]? =some x->de ps (v t) x=false:=λt k j x hj b=>by
  refine(pY (de ps (v t)) (rc t) a (rc t).length).1 ?_ j x hj (Cu.1 b).1 b
  have:=hle t k
  rcases oa ps (rc t) (v t) with h|h|h <;> omega
 have q:∀m,(rc (N+m))[a]? =(rc N)[a]?:=λm=>by
  induction m with
  |zero=>rfl
  |succ m l=>
   rw[← l,show N+(m+1)=N+m+1 from rfl,hn]
   exact frozen (r _ (by omega)) (CK a)
 have p:∀t,N<=t->lM ps (rc t) (v t)=d->∃x,(rc N)[a]? =some x/\askI ps (v t) x=true:=λt k z=>by
  obtain⟨x,e,o⟩:=r8 (f:=askI ps (v t)) (xs:=rc t) (j:=a) (n:=(rc t).length) (by rcases oa ps (rc t) (v t) with h|h|h <;> omega)
  refine⟨x,?_,o⟩
  rw[← e,← q (t-N),show N+(t-N)=t by omega]
 obtain⟨y,h0,u⟩:=hio N
 obtain⟨i,g,_⟩:=p y h0 u
 have w:∀t x,x∈rc t->x∈rc 0:=λt=>by
  induction t with
  |zero=>exact λx h=>h
  |succ t l=>
   intro x b
   rw[hn]at b
   unfold gF at b
   rcases CA.1 b with h|h <;> exact l x (DQ.1 h).1
 refine⟨i,w N i (Db g),λM=>?_,λh=>?_⟩
 .obtain⟨t,s,c⟩:=hio (max M N)
  obtain⟨x,e,o⟩:=p t (by omega) c
  rw[g]at e
  cases e
  exact⟨t,by omega,o⟩
 .obtain⟨t,s,c⟩:=h N
  have:=r t s a i (CK a) (by rw[← g,← q (t-N),show N+(t-N)=t by omega])
  rw[this]at c
  cases c
theorem yp (hd:d % 2=0){i:Int}(hi:i∈rc 0) (ha:ED λt=>askI ps (v t) i=true):ED λt=>de ps (v t) i=true:=by
 intro M
 apply DF
 intro B
 have s:∀t,M<=t->de ps (v t) i=false:=λt z=>Bool.eq_false_iff.2 λh=>B ⟨t,z,h⟩
 have A:∀t,i∈rc t:=λt=>by
  induction t with
  |zero=>exact hi
  |succ t n=>
   rw[hn]
   unfold gF
   rw[CA,DQ,DQ]
   cases de ps (v t) i <;> simp[n]
 obtain⟨p,⟨a,h0,e⟩,w⟩:=y7 (Q:=λp=>∃t,M<=t/\(rc t)[p]? =some i) (b:=k) (by
  obtain⟨p,e⟩:=DK (A M)
  exact⟨p,M,CK M,e⟩) (λp ⟨t,_,e⟩=>by
  have:=(Cu.1 e).1
  rwa [hk]at this)
 have y:∀m,(rc (a+m))[p]? =some i:=λm=>by
  induction m with
  |zero=>exact e
  |succ m n=>
   obtain⟨f,D,g,_⟩:=moved n (s (a+m) (by omega))
   have:(rc (a+m+1))[f]? =some i:=by rw[hn];exact g
   have:=w f ⟨_,by omega,this⟩
   have l:f=p:=by omega
   subst l
   rw[show a+(m+1)=a+m+1 from rfl,hn]
   exact g
 have u:∀t,a<=t->dj (de ps (v t)) (rc t) (rc t).length<(p:Int):=λt z=>by
  have l:a+(t-a)=t:=by omega
  have h1:=y (t-a)
  rw[l]at h1
  obtain⟨f,D,g,E⟩:=moved h1 (s t (by omega))
  have:=w f ⟨t+1,by omega,by rw[hn];exact g⟩
  exact(pY _ _ p _).2 λj x hj _ C=>E (by omega) j x hj C
 obtain⟨c,h1,q⟩:=ha (max a N)
 have F:=hle c (by omega)
 have G:=u c (by omega)
 have H:¬dj (askI ps (v c)) (rc c) (rc c).length<(p:Int):=λh=>by
  have h2:=y (c-a)
  rw[show a+(c-a)=c by omega]at h2
  have:=(pY _ _ p _).1 h p i (CK p) (Cu.1 h2).1 h2
  rw[this]at q
  cases q
 obtain⟨o,h2,K⟩:=hio a
 have I:=u o h2
 rcases oa ps (rc c) (v c) with h|h|h <;> rcases oa ps (rc o) (v o) with r|r|r <;> omega
end
def recP (P:VL) (y:Int):VI:=match idx P y with | some v=>v.Record | none=>[]
theorem vr {ps:VP}{i:Nat}{a:Pair}(h:ps[i]? =some a) (v:Int):askI ps v (i:Int)=true↔v∈a.Ask:=by
 unfold askI
 rw[bT,h]
 simp
theorem tH {ps:VP}{i:Nat}{a:Pair}(h:ps[i]? =some a) (v:Int):de ps v (i:Int)=true↔v∈a.Give:=by
 unfold de
 rw[bT,h]
 simp
section
variable {d:Det}{n m k:Nat}{A:Arena}{P:VL}{g:Parity}{W:Int->Prop}{pk:VI}(h:Cx d n m k A P g W pk){q:Bool}{π:Nat->Int}(hπ:Par.Play (gI g) q (Par.Rg (Xn P.length) (wB W) q) (pkL pk) π) (h0:π 0=0)
include h hπ
theorem Cx.recs (t:Nat):(recP P (π t)).length=d.Pairs.length/\recP P (π (t+1))=gF d.Pairs (recP P (π t)) (atP P (π t))/\(gI g).pri (π t)=lM d.Pairs (recP P (π t)) (atP P (π t)):=by
 obtain⟨⟨a,_⟩,k,_⟩:=hπ t
 obtain⟨v,b,_,_⟩:=h.place a
 have hj:P[(π t).toNat]? =some v:=by rw[← cH a.1];exact b
 have l:=h.rg.game.inn v (Db hj)
 obtain⟨_,c,o,n,e,_,f⟩:=h.rg.game.row _ v (Cu.1 hj).1 hj
 have j:recP P (π t)=v.Record:=by unfold recP;rw[b]
 rw[j,eT b]
 refine⟨l.rl,?_,?_⟩
 .obtain⟨m,p,_,i⟩:=f.to _ ((pJ (by rw[cH a.1];exact e)).1 k)
  unfold recP
  rw[cH m,i]
 .show priL g.Prio (π t)=_
  unfold priL
  rw[cH a.1,c];rfl
theorem Cx.wins:Par.Wins (gI g) q π:=by
 have d:=h.len.1
 have ha:=h.sol.ans
 rw[d]at ha
 refine ha.wins (n:=P.length) (b:=41) (λv a=>a) (λv a=>?_) hπ
 obtain⟨x,c⟩:=cF (xs:=g.Prio) a.1 (by rw[d];exact a.2)
 have:=(GOk.of h.ok).pri v x c
 show 0<=priL g.Prio v/\priL g.Prio v<41
 unfold priL
 rw[c,EC]
 omega
include h0
omit hπ in
theorem Cx.rec0:recP P (π 0)=firstR d.Pairs.length:=by
 rw[h0]
 unfold recP
 rw[show(0:Int)=((0:Nat):Int) from rfl,bT,h.rg.game.zero]
theorem Cx.even (j:q=false){i:Nat}{c:Pair}(b:d.Pairs[i]? =some c):Well c.Ask c.Give λt=>atP P (π t):=by
 obtain⟨D,e,f,N,g⟩:=h.wins hπ
 have a:=h.recs hπ
 intro ha
 refine(jC λt=>tH b _).1 (yp (rc:=λt=>recP P (π t)) (v:=λt=>atP P (π t)) (λt=>(a t).1) (λt=>(a t).2.1) (d:=D) (λN=>?_) (N:=N) (λt k=>?_) ?_ ?_ ((jC λt=>vr b _).2 ha))
 .obtain⟨t,l,m⟩:=f N
  exact⟨t,l,(a t).2.2.symm.trans m⟩
 .rw[← (a t).2.2];exact g t k
 .subst j
  unfold Par.oddP at e
  have:=of_decide_eq_false e
  omega
 .show(i:Int)∈recP P (π 0)
  rw[h.rec0 h0]
  exact Da.2 ⟨i,List.mem_range.2 (Cu.1 b).1,rfl⟩
theorem Cx.odd (m:q=true):∃(i:Nat) (f:Pair),d.Pairs[i]? =some f/\¬Well f.Ask f.Give λt=>atP P (π t):=by
 obtain⟨D,g,k,N,l⟩:=h.wins hπ
 have e:=h.recs hπ
 obtain⟨i,a,p,r⟩:=AJ (rc:=λt=>recP P (π t)) (v:=λt=>atP P (π t)) (λt=>(e t).2.1) (d:=D) (λN=>by
  obtain⟨t,s,u⟩:=k N
  exact⟨t,s,(e t).2.2.symm.trans u⟩) (N:=N) (λt n=>by rw[← (e t).2.2];exact l t n) (by
  subst m
  exact of_decide_eq_true g)
 have a:i∈recP P (π 0):=a
 rw[h.rec0 h0]at a
 obtain⟨j,hj,b⟩:=Da.1 a
 have b:(j:Int)=i:=b
 subst b
 have c:d.Pairs[j]? =some (d.Pairs[j]'(List.mem_range.1 hj)):=ct _
 exact⟨j,_,c,λo=>r ((jC λt=>tH c _).2 (o ((jC λt=>vr c _).1 p)))⟩
end
def alt (x y:Nat->Int) (t:Nat):Int:=if t % 2=0 then x (t / 2) else y (t / 2)
theorem nL (x y:Nat->Int) (t:Nat):alt x y (2 * t)=x t:=by
 unfold alt
 rw[if_pos (by omega),show 2 * t / 2=t by omega]
theorem tY (x y:Nat->Int) (t:Nat):alt x y (2 * t+1)=y t:=by
 unfold alt
 rw[if_neg (by omega),show(2 * t+1) / 2=t by omega]
theorem tB (t:Nat):(∃a,t=2 * a)\/∃a,t=2 * a+1:=by
 by_cases h:t % 2=0
 .exact .inl ⟨t / 2,by omega⟩
 .exact .inr ⟨t / 2,by omega⟩
theorem zf {x y:Nat->Int}{S:Int->Prop}(c:∀t,¬S (y t)):(ED λt=>S (alt x y t))↔ED λt=>S (x t):=⟨λh N=>by
 obtain⟨t,d,a⟩:=h (2 * N)
 rcases tB t with ⟨b,rfl⟩|⟨b,rfl⟩
 .rw[nL]at a
  exact⟨b,by omega,a⟩
 .rw[tY]at a
  exact absurd a (c b),λh N=>by
 obtain⟨t,d,a⟩:=h N
 exact⟨2 * t,by omega,by show S (alt x y (2 * t));rw[nL];exact a⟩⟩
theorem Aa {x y:Nat->Int}{A G:VI}{P:VL}(a:∀t,atP P (y t)∉A) (b:∀t,atP P (y t)∉G):(Well A G λt=>atP P (alt x y t))↔Well A G λt=>atP P (x t):=by
 unfold Well
 rw[zf (S:=λz=>atP P z∈A) a,zf (S:=λz=>atP P z∈G) b]
theorem vY {d:Det}{m k q i:Nat}{z o:Int}(h:idx (outsL d m k q i z) 0=some o):0<=o/\tab d.Next q (o * m+i)=z:=by
 obtain⟨j,hj,a⟩:=Da.1 (Db ((bT (outsL d m k q i z) 0).symm.trans h))
 have h1:=(DQ.1 hj).2
 have a:(j:Int)=o:=a
 subst a
 have h1:=beq_iff_eq.1 h1
 refine⟨by omega,?_⟩
 rw[← h1]
 simp
theorem vV (f:Nat->Int) (F:VI){i:Nat}:∀{j:Nat},i<j->∃a:Int,(dZ f F j).2[i]? =some a/\0<=a/\(dZ f F j).1[a.toNat]? =some (f i)
 |j+1,hi=>by
  have hl:=(oK f F j).2.2
  show ∃a:Int,((dZ f F j).2++[db (addN (dZ f F j).1 (f j)) (f j)])[i]? =some a/\0<=a/\(addN (dZ f F j).1 (f j))[a.toNat]? =some (f i)
  by_cases e:i=j
  .subst e
   obtain⟨a,c,d,b⟩:=p9 (vo (F:=(dZ f F i).1) (t:=f i))
   refine⟨_,by rw[C0 (by omega),hl,EB];rfl,by rw[c];omega,by rw[c,DH];exact b⟩
  .obtain⟨a,c,d,b⟩:=vV f F (show i<j by omega)
   refine⟨a,by rw[CZ (by omega)];exact c,d,?_⟩
   unfold addN
   split
   .exact b
   .rw[CZ (Cu.1 b).1];exact b
section
variable {p:Sig}{d:Det}{n m k:Nat}{A:Arena}{P:VL}{g:Parity}{W:Int->Prop}{pk:VI}
theorem ut:∀j:Nat,(∀i,i<j->i<(itM d n m k P g pk i).1.length)->(itM d n m k P g pk j).2.1.length=j/\(itM d n m k P g pk j).2.2.length=j/\∀z,z<j->∃x e c,(itM d n m k P g pk j).1[z]? =some x/\(itM d n m k P g pk j).2.1[z]? =some e/\(itM d n m k P g pk j).2.2[z]? =some c /\
 ∀i,i<m->(∃b:Int,e[i]? =some b/\0<=b/\(itM d n m k P g pk j).1[b.toNat]? =some (fM pk P (cY g.Arena x) n m (atP P x).toNat i))/\c[i]? =some (oM d pk P (cY g.Arena x) n m k (atP P x).toNat i)
 |0,_=>⟨rfl,rfl,λz p=>absurd p (D1 z)⟩
 |j+1,hj=>by
  obtain⟨h1,h2,l⟩:=ut j λi a=>hj i (by omega)
  have o:=hj j (by omega)
  unfold itM
  generalize itM d n m k P g pk j=s at *
  obtain⟨F,Nx,Ou⟩:=s
  dsimp only at h1 h2 l o ⊢
  have f:F[j]? =some F[j]:=ct o
  have w:F.getD j 0=F[j]:=by rw[bR,f];rfl
  rw[w]
  generalize F[j]=x at f
  refine⟨by rw[Cw,h1];rfl,by rw[Cw,h2];rfl,λz p=>?_⟩
  by_cases v:z=j
  .subst v
   refine⟨x,_,_,mT _ _ f m,by rw[C0 (by omega),h1,EB];rfl,by rw[C0 (by omega),h2,EB];rfl,λi a=>⟨vV _ _ a,?_⟩⟩
   rw[C3,Ez a];rfl
  .obtain⟨y,e,c,q,r,t,u⟩:=l z (by omega)
   refine⟨y,e,c,mT _ _ q m,by rw[CZ (by omega)];exact r,by rw[CZ (by omega)];exact t,λi a=>?_⟩
   obtain⟨⟨b,A,B,C⟩,D⟩:=u i a
   exact⟨⟨b,A,B,mT _ _ C m⟩,D⟩
def xsM (n m:Nat) (P:VL) (g:Parity) (pk:VI) (I:Nat->Nat):Nat->Int
 |0=>0
 |t+1=>fM pk P (cY g.Arena (xsM n m P g pk I t)) n m (atP P (xsM n m P g pk I t)).toNat (I t)
variable (h:Cx d n m k A P g W pk) (h0:wB W 0=false){I:Nat->Nat}(hI:∀t,I t<m)
include h h0 hI
theorem vk:∀t,∃v,idx P (xsM n m P g pk I t)=some v/\v.At<(n:Int)/\wB W (xsM n m P g pk I t)=false
 |0=>by
  refine⟨⟨0,firstR d.Pairs.length⟩,?_,?_,h0⟩
  .show idx P ((0:Nat):Int)=_
   rw[bT];exact h.rg.game.zero
  .have:=h.n1
   show(0:Int)<_
   omega
 |t+1=>by
  obtain⟨v,b,l,o⟩:=vk t
  obtain⟨q,p,c,_,e,_,_,f⟩:=tF h b l o
  obtain⟨_,_,k,_,_,_,_,_,i,j,a,_⟩:=f (I t) (hI t)
  show ∃v,idx P (fM pk P (cY g.Arena _) n m (atP P _).toNat (I t))=some v/\_/\wB W (fM pk P (cY g.Arena _) n m (atP P _).toNat (I t))=false
  rw[dW e,eT b,c,DH]
  exact⟨k,i,by rw[j];exact a.2.2.2,a.2.2.1⟩
theorem Ad (t:Nat):atP P (xsM n m P g pk I (t+1))=tab d.Next (atP P (xsM n m P g pk I t)) (oM d pk P (cY g.Arena (xsM n m P g pk I t)) n m k (atP P (xsM n m P g pk I t)).toNat (I t) * m+I t)/\0<=atP P (xsM n m P g pk I t)/\atP P (xsM n m P g pk I t)<n/\0<=oM d pk P (cY g.Arena (xsM n m P g pk I t)) n m k (atP P (xsM n m P g pk I t)).toNat (I t)/\oM d pk P (cY g.Arena (xsM n m P g pk I t)) n m k (atP P (xsM n m P g pk I t)).toNat (I t)<k:=by
 obtain⟨v,a,o,p⟩:=vk h h0 hI t
 obtain⟨q,s,b,r,c,_,_,e⟩:=tF h a o p
 obtain⟨_,_,w,_,_,_,_,_,u,j,_,l,f,i⟩:=e (I t) (hI t)
 show atP P (fM pk P (cY g.Arena _) n m (atP P _).toNat (I t))=_/\_
 rw[dW c,eT a,b,DH]
 exact⟨by rw[← j];exact(vY l).2.symm,by omega,by omega,f,i⟩
theorem Ae (M:∀a∈d.Pairs,(∀z∈a.Ask,z<(n:Int))/\∀z∈a.Give,z<(n:Int)){i:Nat}{a:Pair}(r:d.Pairs[i]? =some a):Well a.Ask a.Give λt=>atP P (xsM n m P g pk I t):=by
 have k:∀t,∃y:Int,tgt P (cY g.Arena (xsM n m P g pk I t)) ((n+((atP P (xsM n m P g pk I t)).toNat * m+I t):Nat):Int)=y/\(n:Int)<=atP P y/\Par.Rg (Xn P.length) (wB W) false (xsM n m P g pk I t)/\(gI g).own (xsM n m P g pk I t)=true/\(gI g).E (xsM n m P g pk I t) y/\Par.Rg (Xn P.length) (wB W) false y/\(gI g).E y (xsM n m P g pk I (t+1))/\xsM n m P g pk I (t+1)=pkL pk y:=λt=>by
  obtain⟨v,e,X,f⟩:=vk h h0 hI t
  have o:Xn P.length (xsM n m P g pk I t):=⟨(eu e).1,(eu e).2.1⟩
  obtain⟨p,q,Y,K,O,j,Q,N⟩:=h.state e X
  obtain⟨l,E,_⟩:=z6 (N (I t) (hI t))
  show ∃y:Int,_/\_/\_/\_/\_/\_/\(gI g).E y (fM pk P (cY g.Arena _) n m (atP P _).toNat (I t))/\fM pk P (cY g.Arena _) n m (atP P _).toNat (I t)=pkL pk y
  rw[dW j,eT e,K,DH]
  have c:=(Q _ l).1
  have u:=h.yours o (by rw[p,f];simp) ((pJ j).2 l) c
  obtain⟨V,_⟩:=h.mid c O (hI t) E
  obtain⟨to,T,_,R,_⟩:=h.mine c (by rw[V,u,f])
  refine⟨_,rfl,by rw[E];omega,⟨o,f⟩,p,(pJ j).2 l,⟨c,u.trans f⟩,?_,rfl⟩
  unfold fM
  rw[qu T];exact R
 have U:=h.even (q:=false) (π:=alt (xsM n m P g pk I) λt=>tgt P (cY g.Arena (xsM n m P g pk I t)) ((n+((atP P (xsM n m P g pk I t)).toNat * m+I t):Nat):Int)) (λt=>by
  rcases tB t with ⟨b,rfl⟩|⟨b,rfl⟩
  .obtain⟨y,k1,w,x,A,B,C,k7,D⟩:=k b
   rw[tY,nL,k1]
   exact⟨x,B,λH=>absurd (A.symm.trans H) (by decide)⟩
  .obtain⟨y,k1,w,x,A,B,C,k7,D⟩:=k b
   rw[show 2 * b+1+1=2 * (b+1) by omega,tY,nL,k1]
   exact⟨C,k7,λ_=>D⟩) (nL _ _ 0) rfl r
 obtain⟨F,G⟩:=M a (Db r)
 have s:∀(S:VI),(∀z∈S,z<(n:Int))->∀t,atP P (tgt P (cY g.Arena (xsM n m P g pk I t)) ((n+((atP P (xsM n m P g pk I t)).toNat * m+I t):Nat):Int))∉S:=λS L t hm=>by
  obtain⟨y,k1,w,_⟩:=k t
  rw[k1]at hm
  have:=L _ hm
  omega
 exact(Aa (s _ F) (s _ G)).1 U
end
section
variable {p:Sig}{d:Det}{n m k:Nat}{A:Arena}{P:VL}{g:Parity}{W:Int->Prop}{pk:VI}(h:Cx d n m k A P g W pk) (h0:wB W 0=false) (hm:pw p.In=(m:Int)) (hk:pw p.Out=(k:Int)){j:Nat}(hj:∀i,i<j->i<(itM d n m k P g pk i).1.length) (hjl:j=(itM d n m k P g pk j).1.length){I:Nat->Int}(hI:∀t,0<=I t/\I t<m)
include h h0 hm hj hjl hI
theorem BX (t:Nat):0<=runM ⟨(itM d n m k P g pk j).2.1,(itM d n m k P g pk j).2.2⟩ I t/\(itM d n m k P g pk j).1[(runM ⟨(itM d n m k P g pk j).2.1,(itM d n m k P g pk j).2.2⟩ I t).toNat]? =some (xsM n m P g pk (λt=>(I t).toNat) t) /\
 letM p ⟨(itM d n m k P g pk j).2.1,(itM d n m k P g pk j).2.2⟩ I t=oM d pk P (cY g.Arena (xsM n m P g pk (λt=>(I t).toNat) t)) n m k (atP P (xsM n m P g pk (λt=>(I t).toNat) t)).toNat (I t).toNat * m+(I t).toNat:=by
 obtain⟨G,H,s⟩:=ut j hj
 have w:=iA h h0 j hj
 have u:∀(T:VV) (z:Int) a (i e:Int),0<=z->0<=i->T[z.toNat]? =some a->a[i.toNat]? =some e->tab T z i=e:=λT z a i e _ _ h1 h2=>by
  unfold tab
  rw[bR,bR,h1,EC,h2,EC]
 have B:∀t,0<=runM ⟨(itM d n m k P g pk j).2.1,(itM d n m k P g pk j).2.2⟩ I t/\(itM d n m k P g pk j).1[(runM ⟨(itM d n m k P g pk j).2.1,(itM d n m k P g pk j).2.2⟩ I t).toNat]? =some (xsM n m P g pk (λt=>(I t).toNat) t):=λt=>by
  induction t with
  |zero=>exact⟨Int.le_refl 0,w.zero⟩
  |succ t A=>
   obtain⟨f,b⟩:=A
   obtain⟨x,a,v,c,q,r,l⟩:=s _ (by rw[hjl];exact(Cu.1 b).1)
   rw[b]at c
   cases c
   obtain⟨o,y⟩:=hI t
   obtain⟨⟨e,C,D,E⟩,_⟩:=l (I t).toNat (by omega)
   show 0<=tab (itM d n m k P g pk j).2.1 (runM _ I t) (I t)/\(itM d n m k P g pk j).1[(tab (itM d n m k P g pk j).2.1 (runM _ I t) (I t)).toNat]? =_
   rw[u _ _ a (I t) e f o q C]
   exact⟨D,E⟩
 obtain⟨f,b⟩:=B t
 obtain⟨x,a,v,c,q,r,l⟩:=s _ (by rw[hjl];exact(Cu.1 b).1)
 rw[b]at c
 cases c
 obtain⟨o,y⟩:=hI t
 obtain⟨_,F⟩:=l (I t).toNat (by omega)
 refine⟨f,b,?_⟩
 unfold letM
 rw[hm]
 show tab (itM d n m k P g pk j).2.2 (runM _ I t) (I t) * (m:Int)+I t=_
 rw[u _ _ v (I t) _ f o r F]
 omega
include hk
theorem zq (B:∀q∈d.Pairs,(∀z∈q.Ask,z<(n:Int))/\∀z∈q.Give,z<(n:Int)){N:Nat}(A:ltr p=N){c:Clause}(k1:1<=c.Kind) (k7:c.Kind<=7){i:Nat}{π:Int->Int}(hs:Sm N d c i π):Sat c (letM p ⟨(itM d n m k P g pk j).2.1,(itM d n m k P g pk j).2.2⟩ I):=by
 have e:∀t,(I t).toNat<m:=λt=>by have:=hI t;omega
 have E:=BX (p:=p) h h0 hm hj hjl hI
 have l:=Ad h h0 e
 obtain⟨q,H,u⟩:=hs.pair
 have D:=Ae h h0 e B H
 have f:=h.dl
 rw[vd k1 k7]
 have s:∀t,mrun c (letM p ⟨(itM d n m k P g pk j).2.1,(itM d n m k P g pk j).2.2⟩ I) t=π (atP P (xsM n m P g pk (λt=>(I t).toNat) t)):=λt=>by
  induction t with
  |zero=>
   obtain⟨v,K,_⟩:=vk h h0 e 0
   have F:=h.rg.game.zero
   have y:atP P (xsM n m P g pk (λt=>(I t).toNat) 0)=0:=eT (v:=⟨0,firstR d.Pairs.length⟩) (by show idx P ((0:Nat):Int)=_;rw[bT];exact F)
   rw[y,hs.zero];rfl
  |succ t G=>
   show mst c (mrun c _ t) _=_
   obtain⟨w,a,b,r,x⟩:=l t
   have C:oM d pk P (cY g.Arena (xsM n m P g pk (λt=>(I t).toNat) t)) n m k (atP P (xsM n m P g pk (λt=>(I t).toNat) t)).toNat (I t).toNat * m+(I t).toNat<(N:Int):=by
    rw[← A]
    unfold ltr
    rw[hm,hk]
    generalize oM d pk P (cY g.Arena (xsM n m P g pk (λt=>(I t).toNat) t)) n m k (atP P (xsM n m P g pk (λt=>(I t).toNat) t)).toNat (I t).toNat=o at r x
    have:=Int.mul_le_mul_of_nonneg_right (show o+1<=k by omega) (show(0:Int)<=m by omega)
    have:=e t
    rw[Int.add_mul,Int.one_mul,Int.mul_comm (k:Int)]at *
    omega
   rw[G,(E t).2.2,w]
   exact(hs.step _ _ a (by rw[f];exact b) (Int.add_nonneg (Int.mul_nonneg r (by omega)) (by omega)) C).symm
 refine λha=>(jC λt=>?_).1 (D ((jC λt=>?_).1 ha))
 .obtain⟨_,a,b,_⟩:=l t
  rw[s]
  exact(u _ a (by rw[f];exact b)).2
 .obtain⟨_,a,b,_⟩:=l t
  rw[s]
  exact(u _ a (by rw[f];exact b)).1.symm
end
theorem yo {p:Sig}{d:Det}(hd:detOk p d=true):∀c∈d.Pairs,(∀z∈c.Ask,z<(d.Next.length:Int))/\∀z∈c.Give,z<(d.Next.length:Int):=λx e=>by
 unfold detOk at hd
 simp only[rx]at hd
 have a:=hd.1.2
 unfold pairsOk at a
 rw[rx,DI]at a
 have:=a.2 x e
 unfold pairOk at this
 rw[rx]at this
 exact⟨λz b=>((St.of this.1).rng z b).2,λz b=>((St.of this.2).rng z b).2⟩
structure Good (p:Sig) (cs:VC) (M:Machine):Prop where
 ok:machOk p M=true
 le:M.Next.length<=32
 sat:∀I:Nat->Int,(∀t,0<=I t/\I t<pw p.In)->∀c∈cs,Sat c (letM p M I)
inductive MadeBy (p:Sig) (cs:VC):Machine->Prop
 |mk {d:Det} {n m k:Nat} {A:Arena} {P:VL} {g:Parity} {W:Int->Prop} {pk:VI} (h1:cO p cs=some (d,true)) (S:Stq p cs d n m k A P g W pk) (hn:n<=16) (hp:d.Pairs.length<=2) (h0:wB W 0=false) {j:Nat} (hj:∀i,i<j->i<(itM d n m k P g pk i).1.length) (hjl:j=(itM d n m k P g pk j).1.length):MadeBy p cs ⟨(itM d n m k P g pk j).2.1,(itM d n m k P g pk j).2.2⟩
theorem MadeBy.good {p:Sig}{cs:VC}{M:Machine}(h:MadeBy p cs M) (r:∀c∈cs,cZ p c=true):Good p cs M:=by
 obtain⟨_,S,hn,y,h0,hj,hjl⟩:=h
 rename_i d n m k A P g W pk j
 have a:=iA S.cx h0 j hj
 have C:=se S.cx hn y a.nm λx l=>(a.all x l).2
 have z:=a.nxl
 have B:=a.oul
 have D:=(Cu.1 a.zero).1
 obtain⟨N,q,v⟩:=S.prd
 refine⟨yC (by dsimp only;omega) (by dsimp only;omega) (by dsimp only;omega) (λo f=>?_) (λo f=>?_),by dsimp only;omega,λI hI c s=>?_⟩
 .obtain⟨b,e⟩:=a.nxr o f
  exact⟨by rw[b,S.im],λx l=>by have:=e x l;dsimp only;omega⟩
 .obtain⟨b,e⟩:=a.our o f
  rw[S.ok]
  exact⟨by rw[b,S.im],e⟩
 .obtain⟨i,w⟩:=DK s
  obtain⟨π,hs⟩:=v.sm q r i c w
  obtain⟨k1,k7⟩:=ms (r c s)
  have u:=yo S.det
  rw[S.cx.dl]at u
  exact zq S.cx h0 S.im S.ok hj hjl (λt=>by have:=hI t;rw[S.im]at this;exact this) u q k1 k7 hs
theorem zO {n:Nat}(h:n<=256):qb (n:Int)=some (firstR n):=by
 unfold qb
 obtain⟨d,e,g⟩:=cM (f:=lN (n:Int)) (λj (a:VI×Int)=>a=(firstR j,(j:Int))/\j<=n) (λ_=>False) (λa=>a.1=firstR n) n (λj a ⟨b,hj⟩=>by
  subst b
  unfold lN
  dsimp only
  by_cases c:j<n
  .rw[decide_eq_true (show(j:Int)<(n:Int) by omega),cond_true,decide_eq_true (show(n:Int)<=256 by omega),D3,cond_true,app1 (by unfold firstR;rw[DM,Eb];omega) rfl,D3,wr' (by omega) (by omega)]
   exact⟨_,rfl,c,by unfold firstR;rw[List.range_succ,C8];rfl,by omega⟩
  .have:j=n:=by omega
   subst this
   rw[decide_eq_false (show ¬((j:Nat):Int)<(j:Int) by omega),cond_false,D3,cond_false]
   exact⟨_,rfl,rfl⟩) (2 ^ 64) 0 ([],0) (by omega) ⟨rfl,Nat.zero_le _⟩ (by omega)
 match d,g with
 |.inr a,b=>rw[e,D3,bU,b]
theorem oE {n i:Nat}(h:i<n):(firstR n)[i]? =some (i:Int):=by
 unfold firstR
 rw[C3,Ez h];rfl
theorem zB {n:Nat}(h:n<=256):oy (n:Int) (firstR n)=some (De n true):=by
 unfold oy
 have hl:(firstR n).length=n:=by unfold firstR;rw[DM,Eb]
 rw[dg (by omega) rfl,D3,hl]
 obtain⟨a,h1,h2,g⟩:=ch (f:=kK (firstR n)) (λj (a:VB)=>a.length=n/\∀i:Nat,i<j->a[i]? =some true) n (s:=De n false) ⟨by simp,λi b=>absurd b (D1 i)⟩ (λj a hj ⟨c,d⟩=>by
  have k:a[j]? =some (a[j]'(by omega)):=ct (by omega)
  unfold kK
  rw[bT,oE hj,D3,bT,k,D3,qj (by omega),D3]
  refine⟨_,rfl,by rw[List.length_set];exact c,λi b=>?_⟩
  by_cases e:i=j
  .subst e
   exact List.getElem?_set_self (by omega)
  .rw[List.getElem?_set_ne (by omega)]
   exact d i (by omega))
 rw[h1,D3,bU]
 congr 1
 apply List.ext_getElem?
 intro i
 rw[D9]
 by_cases b:i<n
 .rw[if_pos b];exact g i b
 .rw[if_neg b];exact D8 (by omega)
theorem wK {g:Parity}(p:c7 g=true){W:Int->Prop}(m:jQ g=some (wonL g.Prio.length W)):∃w V,oV g=some (firstR g.Prio.length)/\qf g (firstR g.Prio.length)=some (w,V)/\gH w 0=some (!(wB W 0)):=by
 have h:=GOk.of p
 have hn:=h.n256
 obtain⟨h1,h2,e,ag,H⟩:=d7 p
 have ah:1<=g.Prio.length:=by omega
 have hl:(firstR g.Prio.length).length=g.Prio.length:=by unfold firstR;rw[DM,Eb]
 obtain⟨P,D,X⟩:=vb h
 have M:oV g=some (firstR g.Prio.length):=by
  unfold oV
  rw[zO hn];rfl
 -- the set of the winner
 have K:=nr h (oS p)
 have Q:=xK h P
 have I:In (De g.Prio.length true)=λv:Int=>0<=v/\v<g.Prio.length:=funext λv=>propext (wN v)
 have C:=h.wfS X (k:=De g.Prio.length (-1)) (by simp)
 obtain⟨R,F,aj,_⟩:=zV C h.pri g.Prio.length (De g.Prio.length true) (2 ^ 64) (by simp) (by rw[I,Q];exact K) (by have:=kN (De g.Prio.length true);simp at this;exact this) (by omega)
 have L:wonL g.Prio.length W=R.map λc=>b2i (!c):=by
  unfold jQ at m
  rw[D,D3,yZ h,D3,F,D3]at m
  obtain⟨d,k1,U⟩:=ch (f:=mh R) (λj d=>d=(R.take j).map λc=>b2i (!c)) R.length (s:=[]) rfl (λj d hj a=>by
   subst a
   have b:R[j]? =some R[j]:=ct hj
   generalize R[j]=c at b
   have O:ig c=some (b2i c):=by cases c <;> rfl
   unfold mh
   rw[bT,b,D3,O,D3,oC,app1 (by rw[DM,C7];omega) rfl]
   exact⟨_,rfl,by rw[List.take_add_one,b,C8];rfl⟩)
  rw[k1,U,D3,bU,List.take_length]at m
  exact(Ds m).symm
 have y:R[0]? =some (!(wB W 0)):=by
  have a:=mi (W:=W) (n:=g.Prio.length) (v:=0) ⟨Int.le_refl _,by omega⟩
  have b:R[0]? =some (R[0]'(by omega)):=ct (by omega)
  rw[L,show(0:Int)=((0:Nat):Int) from rfl,bT,C3,b]at a
  rw[b]
  generalize R[0]'(by omega)=c at a
  have a:=Ds a
  revert a
  show b2i (!c)=b2i (wB W 0)->_
  cases c <;> cases wB W 0 <;> first | (intro _;rfl) | (intro a;exact absurd a (by decide))
 have T:kV (firstR g.Prio.length) (g.Prio.length:Int)=some true:=by
  unfold kV
  rw[dP,lZ (by omega) (by omega) (by omega),gA.2 ⟨λx b=>by
   obtain⟨i,q⟩:=DK b
   have o:=(Cu.1 q).1
   rw[oE (by omega)]at q
   cases q
   omega,by
   unfold firstR
   refine EA.2 (List.Pairwise.imp (λ{G c} ai=>?_) List.pairwise_lt_range)
   show(G:Int)<(c:Int)
   omega⟩,decide_eq_true (show(0:Int)<=(g.Prio.length:Int) by omega),decide_eq_true (show(g.Prio.length:Int)<=256 by omega)]
  rfl
 have N:∀v:Nat,v<g.Prio.length->∃z,jb ⟨g.Arena.Owner,g.Prio,g.Arena.Next,P,De g.Prio.length (-1)⟩ (De g.Prio.length true) (v:Int)=some z/\(z==0)=false:=λv l=>by
  have hd:=wl C (B:=De g.Prio.length true) (by simp) (v:=(v:Int)) (by omega) (by omega)
  refine⟨_,hd,?_⟩
  have s:g.Arena.Next[v]? =some (g.Arena.Next[v]'(by omega)):=ct (by omega)
  obtain⟨Y,_,E⟩:=H v _ s
  generalize g.Arena.Next[v]'(by omega)=row at s Y E
  have S:rowS (⟨g.Arena.Owner,g.Prio,g.Arena.Next,P,De g.Prio.length (-1)⟩:l7Game) (v:Int)=row.filter (okE (-1)):=rC (by rw[bT];exact s) (by rw[bT,D9,if_pos l])
  rw[beq_eq_false_iff_ne]
  intro a
  have u:lf (rowS (⟨g.Arena.Owner,g.Prio,g.Arena.Next,P,De g.Prio.length (-1)⟩:l7Game) (v:Int)) (In (De g.Prio.length true)) (λ_=>False)=0:=by omega
  rw[ux,S]at u
  have b:row[0]? =some (row[0]'(by omega)):=ct (by omega)
  have hm:=Db b
  obtain⟨Z,ak⟩:=(gA.1 E).1 _ hm
  exact u _ (DQ.2 ⟨hm,rfl⟩) ((wN _).2 ⟨Z,by omega⟩)
 obtain⟨d,aa,al,am,ab⟩:=ch (f:=lW (firstR g.Prio.length) R) (λj (d:VI×VI)=>d.1.length<=j/\d.2.length<=j/\∀z,z∈d.1↔∃i:Nat,i<j/\z=(i:Int)/\R[i]? =some true) g.Prio.length (s:=([],[])) ⟨by simp,by simp,λz=>by simp⟩ (λj d hj ⟨ae,af,t⟩=>by
  have b:R[j]? =some (R[j]'(by omega)):=ct (by omega)
  generalize R[j]'(by omega)=c at b
  unfold lW
  rw[bT,oE hj,D3,bT,b,D3]
  cases c with
  |true=>
   rw[cond_true,D3,app1 (by omega) rfl]
   refine⟨_,rfl,by dsimp only;rw[Cw];simp;omega,by dsimp only;omega,λz=>?_⟩
   dsimp only
   rw[CA,CC,t]
   constructor
   .rintro(⟨i,h1,h2⟩|a)
    .exact⟨i,by omega,h2⟩
    .exact⟨j,by omega,a,b⟩
   .rintro⟨i,h1,h2,e⟩
    by_cases a:i=j
    .subst a;exact .inr h2
    .exact .inl ⟨i,by omega,h2,e⟩
  |false=>
   rw[cond_false,D3,app1 (by omega) rfl]
   refine⟨_,rfl,by dsimp only;omega,by dsimp only;rw[Cw];simp;omega,λz=>?_⟩
   dsimp only
   rw[t]
   constructor
   .rintro⟨i,h1,h2⟩
    exact⟨i,by omega,h2⟩
   .rintro⟨i,h1,h2,e⟩
    by_cases a:i=j
    .subst a;rw[b]at e;cases e
    .exact⟨i,by omega,h2,e⟩)
 refine⟨d.1,d.2,M,?_,?_⟩
 .unfold qf
  rw[mC,p,D3,DD,cond_false,T,D3,D3,DD,cond_false,D,D3,zB hn,D3]
  rw[dS (f:=lV (firstR g.Prio.length) ⟨g.Arena.Owner,g.Prio,g.Arena.Next,P,De g.Prio.length (-1)⟩ (De g.Prio.length true)) (r:=([],[])) (λ_=>true) (xs:=firstR g.Prio.length) rfl (λi v l=>by
   have o:=(Cu.1 l).1
   rw[hl]at o
   have A:=l
   rw[oE o]at A
   cases A
   obtain⟨z,ac,ad⟩:=N i o
   unfold lV
   rw[bT,l,D3,ac,D3,ad];rfl)]
  rw[show((firstR g.Prio.length).all λ_=>true)=true from by simp,if_pos rfl,D3,bU,F,D3,hl,aa,D3,bU]
 .rw[qz]
  congr 1
  rw[Bool.eq_iff_iff,decide_eq_true_eq,ab]
  constructor
  .rintro⟨i,h1,h2,e⟩
   have:i=0:=by omega
   subst this
   rw[y]at e
   exact Ds e
  .intro a
   exact⟨0,by omega,rfl,by rw[y,a]⟩
section
variable {p:Sig}{cs:VC}{d:Det}{A:Arena}(h1:cO p cs=some (d,true)) (h2:dh p cs=some (d,true)) (S2:Stp2 p cs d A)
include h1 S2
omit h2
theorem B7:d8 p cs=Dl (m0 p d 0) λx=>some (x==0):=by
 unfold d8 kT
 rw[h1,D3,cond_true,kv S2.sig S2.pb,S2.det,D3,DD,cond_false]
 cases m0 p d 0 <;> rfl
omit h1
include h2
theorem Bs:kc p cs=Dl (eh A d.Pairs 0) λa=>bif (!a.2.2) then some false else Dl (fl a.1) λc=>Dl (idx c 0) λe=>some (e==0):=by
 have b:nU A 0=some true:=by
  unfold nU n8
  have:=S2.a1
  rw[decide_eq_true (Int.le_refl 0),cond_true,D3,decide_eq_true (by omega)];rfl
 unfold kc pN o8 n8
 rw[h2,D3,cond_true,lG,S2.sig,D3,DD,cond_false,qI S2.sig S2.pb,S2.det,S2.iC]
 simp only[pM,S2.aok,D3,DD,cond_false,nT S2.pb,S2.pok,b]
 cases eh A d.Pairs 0 with
 |none=>rfl
 |some x=>
  simp only[D3]
  cases !x.2.2 with
  |true=>rfl
  |false=>
   simp only[cond_false]
   cases fl x.1 with
   |none=>rfl
   |some y=>
    simp only[D3]
    cases idx y 0 <;> rfl
end
section
variable {p:Sig}{cs:VC}{d:Det}{n m k:Nat}{A:Arena}{P:VL}{g:Parity}{W:Int->Prop}{pk:VI}(S2:Stp2 p cs d A) (S:Stp3 p cs d n m k A P g W pk)
include S2 S
theorem xz (h1:cO p cs=some (d,true)):d8 p cs=some (!(wB W 0)):=by
 obtain⟨e,f,a,b,c⟩:=wK S.cx.ok S.sW
 rw[B7 h1 S2]
 unfold m0
 rw[S2.sC,D3,S.sR,D3]
 simp only[D3,DD,cond_false,a,b,c]
 cases wB W 0 <;> rfl
theorem xc (h2:dh p cs=some (d,true)):kc p cs=some (!(wB W 0)):=by
 rw[Bs h2 S2,S.iR,D3]
 simp only[DD,cond_false,S.iW,S.won,D3]
 cases wB W 0 <;> rfl
end
theorem vE {p:Sig}(hs:sigOk p=true){cs:VC}(o:∀c∈cs,Clause.bd c) (q:∀c∈cs,cZ p c=true) (h2:cs.length<=2):∃a,d8 p cs=some a/\kc p cs=some a/\((a=false/\jf p cs=some (⟨[],[]⟩,false))\/(a=true/\∃M,jf p cs=some (M,true)/\MadeBy p cs M)):=by
 obtain⟨d,A,n,m,k,P,g,W,pk,h1,e,S2,S,hn,i⟩:=small hs o q h2
 refine⟨!(wB W 0),xz S2 S h1,xc S2 S e,?_⟩
 unfold jf
 simp only[e,S.iC,S.iR,S.iW,S.won,S.iS,D3,DD,cond_false]
 cases b:wB W 0 with
 |true=>exact .inl ⟨rfl,rfl⟩
 |false=>
  obtain⟨j,l,s,t⟩:=Bj (wn:=wonL g.Prio.length W) hs S2.det S2.pb S.cx S.im S.ok b
  have f:=iA S.cx b j l
  have u:=se S.cx hn i f.nm λx r=>(f.all x r).2
  refine .inr ⟨rfl,_,?_,⟨h1,S.q S2,hn,i,b,l,s⟩⟩
  show(bif (b2i false !=0) then _ else _)=_
  rw[show(b2i false !=0)=false from rfl,cond_false,t,D3,bU]
  unfold stM
  dsimp only
  rw[decide_eq_false (by omega)];rfl
theorem xJ {x:l30Graph}{K:List Key}(h1:x.of=K.map (·.1)) (h2:x.by0=K.map (·.2)) (hl:K.length<=100000) (p q:Int):
 j6 x p q=some (atK K (p,q),(addK K (p,q)).map (·.1),(addK K (p,q)).map (·.2)):=by
 have a:x.of.length=K.length:=by rw[h1,DM]
 unfold j6
 rw[a,iq (f:=jN x p q) (λk=>((p,q):Key)==k) (λi=>((i:Int),x.of,x.by0)) (xs:=K) (λi k hk=>by
  unfold jN
  rw[bT,bT,show x.of[i]? =some k.1 from by rw[h1,C3,hk];rfl,show x.by0[i]? =some k.2 from by rw[h2,C3,hk];rfl]
  simp only[D3]
  have:(((p,q):Key)==k)=((k.1==p)&&(k.2==q)):=by
   obtain⟨b,c⟩:=k
   rw[Bool.eq_iff_iff,beq_iff_eq,rx,beq_iff_eq,beq_iff_eq,Prod.mk.injEq]
   exact⟨λh=>⟨h.1.symm,h.2.symm⟩,λh=>⟨h.1.symm,h.2.symm⟩⟩
  rw[this]
  cases k.1==p <;> cases k.2==q <;> rfl)]
 unfold atK addK loc
 rw[D3]
 cases K.findIdx? (λk=>((p,q):Key)==k) with
 |some i=>simp[aft,h1,h2]
 |none=>
  have d:x.by0.length=K.length:=by rw[h2,DM]
  simp only[bU]
  rw[app1 (by omega) rfl,D3,app1 (by omega) rfl,D3,h1,h2]
  simp only[Cw,DM,Cy,DO,C8,List.map_cons,List.map_nil]
  rw[wr' (by omega) (by omega)]
  congr 2
  omega
def nums (n:Nat):VI:=(List.range n).map (λi:Nat=>(i:Int))
theorem tM (n:Nat):nums (n+1)=nums n++[(n:Int)]:=by simp[nums,List.range_succ]
def keyW (m:Machine) (d:Det) (ins q r j:Int):Key:=(tab m.Next q j,tab d.Next r (tab m.Out q j * ins+j))
abbrev St3:=List Key×VI×VI
def stepW (m:Machine) (d:Det) (ins q r:Int) (s:St3) (j:Int):St3:=(addK s.1 (keyW m d ins q r j),s.2.1++[atK s.1 (keyW m d ins q r j)],s.2.2++[tab m.Out q j * ins+j])
def rowW (m:Machine) (d:Det) (ins q r:Int) (K:List Key) (j:Nat):St3:=(nums j).foldl (stepW m d ins q r) (K,[],[])
theorem oR (m:Machine) (d:Det) (ins q r:Int) (K:List Key) (j:Nat):rowW m d ins q r K (j+1)=stepW m d ins q r (rowW m d ins q r K j) j:=by
 unfold rowW
 rw[tM,List.foldl_append];rfl
def Kin (a b:Int) (K:List Key):Prop:=∀k∈K,0<=k.1/\k.1<a/\0<=k.2/\k.2<b
section
variable {p:Sig}{m:Machine}{d:Det}(hm:machOk p m=true) (hd:detOk p d=true)
include hm hd
theorem uu {q r j:Int}(i:0<=q) (D:q<m.Next.length) (E:0<=r) (F:r<d.Next.length) (g:0<=j) (f:j<pw p.In):
 ∃b e c,idx m.Next q=some b/\idx b j=some (keyW m d (pw p.In) q r j).1/\idx m.Out q=some e/\idx e j=some (tab m.Out q j)/\idx d.Next r=some c/\idx c (tab m.Out q j * pw p.In+j)=some (keyW m d (pw p.In) q r j).2 /\
  0<=tab m.Out q j/\tab m.Out q j<4/\0<=(keyW m d (pw p.In) q r j).1/\(keyW m d (pw p.In) q r j).1<m.Next.length/\0<=(keyW m d (pw p.In) q r j).2/\(keyW m d (pw p.In) q r j).2<d.Next.length:=by
 obtain⟨_,_,H,A,B⟩:=dm hm
 obtain⟨_,_,_,C⟩:=dC hd
 obtain⟨b,k,l,n,o⟩:=mJ A i D g f
 obtain⟨e,s,t,u,G⟩:=mJ B i (by omega) g f
 have I:=gG p.Out
 have z:tab m.Out q j * pw p.In+j<ltd p:=by
  unfold ltd
  have a:pw p.In=2\/pw p.In=4:=by unfold pw;split <;> simp
  rcases a with a|a <;> rw[a]at f ⊢ <;> omega
 have h0:0<=tab m.Out q j * pw p.In+j:=by
  have a:pw p.In=2\/pw p.In=4:=by unfold pw;split <;> simp
  rcases a with a|a <;> rw[a] <;> omega
 obtain⟨c,v,w,x,y⟩:=mJ C E F h0 z
 exact⟨b,e,c,k,l,s,t,v,w,u,by omega,n,o,x,y⟩
theorem rD {q r:Int}(b:0<=q) (c:q<m.Next.length) (e:0<=r) (f:r<d.Next.length){K:List Key}(a:Kin m.Next.length d.Next.length K):∀(j:Nat),(j:Int)<=pw p.In ->
 Kin m.Next.length d.Next.length (rowW m d (pw p.In) q r K j).1/\K.length<=(rowW m d (pw p.In) q r K j).1.length/\(rowW m d (pw p.In) q r K j).1.length<=K.length+j/\(rowW m d (pw p.In) q r K j).2.1.length=j/\(rowW m d (pw p.In) q r K j).2.2.length=j /\
  (∀(i:Nat) v,K[i]? =some v->(rowW m d (pw p.In) q r K j).1[i]? =some v)
 |0,_=>⟨a,CK _,by simp[rowW,nums],rfl,rfl,λ_ _ h=>h⟩
 |j+1,hj=>by
  obtain⟨h1,h2,w,g,l,n⟩:=rD b c e f a j (by omega)
  obtain⟨_,_,_,_,_,_,_,_,_,_,_,k1,s,t,u⟩:=uu hm hd b c e f (j:=(j:Int)) (by omega) (by omega)
  rw[oR]
  generalize rowW m d (pw p.In) q r K j=F at *
  have hl:=vm F.1 (keyW m d (pw p.In) q r j)
  refine⟨λk hk=>?_,?_,?_,?_,?_,λi v o=>rF (n i v o)⟩
  .rcases vn hk with hk|rfl
   .exact h1 k hk
   .exact⟨k1,s,t,u⟩
  .show K.length<=(addK F.1 _).length
   omega
  .show(addK F.1 _).length<=_
   omega
  .show(F.2.1++[_]).length=_
   simp[g]
  .show(F.2.2++[_]).length=_
   simp[l]
end
abbrev WT:=List Key×Int×VV×VV×List (Key×Int)
abbrev WS:=Int×VI×VI×VV×VV
def toS (t:WT):WS:=(t.2.1,t.1.map (·.1),t.1.map (·.2),t.2.2.1,t.2.2.2.1)
def InvW (m:Machine) (d:Det) (k:Nat) (t:WT):Prop:=Kin m.Next.length d.Next.length t.1/\0<=t.2.1/\t.2.1<=t.1.length/\(t.2.2.1.length:Int)=t.2.1/\(t.2.2.2.1.length:Int)=t.2.1/\(∀a∈t.2.2.1,a.length=k)/\t.2.2.2.2=ixm 0 t.1/\t.1.length<=256
section
variable {p:Sig}{m:Machine}{d:Det}(hs:sigOk p=true) (hm:machOk p m=true) (hd:detOk p d=true){k:Nat}(hk:pw p.In=(k:Int))
include hs hm hd hk
theorem Bq {q r:Int}(g:0<=q) (l:q<m.Next.length) (n:0<=r) (o:r<d.Next.length){K:List Key}(w:Kin m.Next.length d.Next.length K) (hl:K.length<=1000){x42 x47:Key}(s:x42.1=q) (t:x47.2=r){row:VI}(v:idx m.Next q=some row):
 cntM (iw p m d x42 x47 row) k 0 (K,[],[],ixm 0 K)=some (.inr ((rowW m d (pw p.In) q r K k).1,(rowW m d (pw p.In) q r K k).2.1,(rowW m d (pw p.In) q r K k).2.2,ixm 0 (rowW m d (pw p.In) q r K k).1)):=by
 obtain⟨Y,Z,aa,ab,ac⟩:=dm hm
 obtain⟨L,M,_,_⟩:=dC hd
 obtain⟨ad,h1,h2⟩:=ch (f:=iw p m d x42 x47 row) (λj b=>b=((rowW m d (pw p.In) q r K j).1,(rowW m d (pw p.In) q r K j).2.1,(rowW m d (pw p.In) q r K j).2.2,ixm 0 (rowW m d (pw p.In) q r K j).1)) k (s:=(K,[],[],ixm 0 K)) rfl (λj b hj hI=>by
  subst hI
  obtain⟨N,O,P,Q,R,S⟩:=rD hm hd g l n o w j (by omega)
  obtain⟨H,I,c,k1,A,B,C,D,E,k7,X,G,V,y,W⟩:=uu hm hd g l n o (j:=(j:Int)) (by omega) (by omega)
  rw[v]at k1
  cases k1
  refine⟨_,?_,rfl⟩
  rw[oR]
  have U:=gG p.In
  have T:0<=tab m.Out q j * pw p.In/\tab m.Out q j * pw p.In<=16:=by
   have a:pw p.In=2\/pw p.In=4:=by unfold pw;split <;> simp
   rcases a with a|a <;> rw[a] <;> omega
  unfold iw
  rw[s,t,A,D3,B,D3,C,D3,gi hs,D3,D,D3,wr' (z:=tab m.Out q j * pw p.In) (by omega) (by omega),wr' (by omega) (by omega),E,D3]
  have e:kwI2 (keyW m d (pw p.In) q r j)=true:=Cf G (by omega) y (by omega)
  unfold stepW
  generalize rowW m d (pw p.In) q r K j=F at *
  generalize keyW m d (pw p.In) q r j=u at *
  dsimp only
  rw[show((u.1,u.2):Key)=u from rfl,zu F.1 e,D3]
  unfold addK atK
  cases x:loc F.1 u with
  |some i=>
   simp only[DD,cond_false,D3]
   rw[app1 (by omega) rfl,D3,app1 (by omega) rfl]
   rfl
  |none=>
   simp only[Bool.not_false,cond_true]
   rw[zx e x,D3,app1 (by omega) rfl,D3,D3]
   dsimp only
   rw[app1 (by omega) rfl,D3,app1 (by omega) rfl]
   rfl)
 rw[h1,h2]
theorem B5 {q r:Int}(l:0<=q) (n:q<m.Next.length) (o:0<=r) (s:r<d.Next.length){K:List Key}(v:Kin m.Next.length d.Next.length K) (hl:K.length<=1000){s1:WS}{i:Nat}(hi:s1.1=(i:Int)) (w:K[i]? =some (q,r)):
 ∃z,cd (gz p m d s1) (2 ^ 64) ([],[],0,K.map (·.1),K.map (·.2))=some (.inr ((rowW m d (pw p.In) q r K k).2.1,(rowW m d (pw p.In) q r K k).2.2,z,(rowW m d (pw p.In) q r K k).1.map (·.1),(rowW m d (pw p.In) q r K k).1.map (·.2))):=by
 obtain⟨Z,aa,ab,ac,ad⟩:=dm hm
 obtain⟨L,M,_,_⟩:=dC hd
 have T:=gG p.In
 obtain⟨y,_⟩:=eJ hs
 obtain⟨G,h1,h2⟩:=cM (f:=gz p m d s1) (λj a=>a=((rowW m d (pw p.In) q r K j).2.1,(rowW m d (pw p.In) q r K j).2.2,(j:Int),(rowW m d (pw p.In) q r K j).1.map (·.1),(rowW m d (pw p.In) q r K j).1.map (·.2))/\j<=k)
  (λ_=>False) (λa=>a=((rowW m d (pw p.In) q r K k).2.1,(rowW m d (pw p.In) q r K k).2.2,(k:Int),(rowW m d (pw p.In) q r K k).1.map (·.1),(rowW m d (pw p.In) q r K k).1.map (·.2))) k (λj a ⟨hI,hj⟩=>by
  subst hI
  unfold gz mb
  rw[eP y,D3,D3]
  by_cases e:(j:Int)<pw p.In
  .obtain⟨N,O,P,Q,R,t⟩:=rD hm hd l n o s v j (by omega)
   obtain⟨H,I,c,k1,A,B,C,D,E,k7,X,Y,U,V,W⟩:=uu hm hd l n o s (j:=(j:Int)) (by omega) (by omega)
   have S:0<=tab m.Out q j * pw p.In/\tab m.Out q j * pw p.In<=16:=by
    have b:pw p.In=2\/pw p.In=4:=by unfold pw;split <;> simp
    rcases b with b|b <;> rw[b] <;> omega
   have x:=oR m d (pw p.In) q r K j
   have g:=t i _ w
   refine⟨.inr (.inr ((rowW m d (pw p.In) q r K (j+1)).2.1,(rowW m d (pw p.In) q r K (j+1)).2.2,((j+1:Nat):Int),(rowW m d (pw p.In) q r K (j+1)).1.map (·.1),(rowW m d (pw p.In) q r K (j+1)).1.map (·.2))),?_,by omega,rfl,by omega⟩
   rw[x]
   unfold stepW
   generalize rowW m d (pw p.In) q r K j=F at *
   generalize hu:keyW m d (pw p.In) q r j=u at *
   simp only[e,decide_true,cond_true]
   rw[hi,bT,bT,show(F.1.map (·.1))[i]? =some q from by rw[C3,g];rfl,show(F.1.map (·.2))[i]? =some r from by rw[C3,g];rfl]
   simp only[D3,k1,A,B,C,D]
   rw[wr' (z:=tab m.Out q j * pw p.In) (by omega) (by omega),wr' (by omega) (by omega),E,D3,xJ (K:=F.1) rfl rfl (by omega),D3,app1 (by omega) rfl,D3,app1 (by omega) rfl,D3,wr' (by omega) (by omega)]
   rfl
  .have:j=k:=by omega
   subst this
   refine⟨.inr (.inl _),?_,rfl⟩
   simp only[e,decide_false,cond_false]) (2 ^ 64) 0 ([],[],0,K.map (·.1),K.map (·.2)) (by omega) ⟨rfl,by omega⟩ (by omega)
 match G,h2 with
 |.inr a,h2=>exact⟨(k:Int),by rw[h1,h2]⟩
end
theorem wo (row:VI) (v:Int):gH row v=some (row.any (λx=>v==x)):=by
 unfold gH
 rw[dS (f:=i8 row v) (r:=true) (λx=> !(v==x)) (xs:=row) rfl (λi y a=>by
  unfold i8
  rw[bT,a,D3,show(y==v)=(v==y) from BEq.comm]
  cases v==y <;> rfl),List.any_eq_not_all_not]
 cases row.all (λx=> !(v==x)) <;> rfl
def partN (K:List Key) (S:VI):Nat->VI
 |0=>[]
 |j+1=>bif (match K[j]? with | some k=>S.any (λx=>k.2==x) | none=>false) then partN K S j++[(j:Int)] else partN K S j
theorem oN (K:List Key) (S:VI):∀j,(partN K S j).length<=j
 |0=>CK _
 |j+1=>by
  have:=oN K S j
  unfold partN
  cases(match K[j]? with | some k=>S.any (λx=>k.2==x) | none=>false) with
  |false=>exact Nat.le_succ_of_le this
  |true=>simpa using this
theorem zT {x:l30Graph}{K:List Key}(h2:x.by0=K.map (·.2)) (hl:K.length<=1000) (S:VI):lj x S=some (partN K S K.length):=by
 unfold lj
 obtain⟨d,b,c⟩:=ch (f:=jO x S) (λj a=>a=partN K S j) K.length (s:=[]) rfl (λj a hj hI=>by
  subst hI
  obtain⟨k,hk⟩:∃k,K[j]? =some k:=⟨_,ct hj⟩
  have:=oN K S j
  refine⟨_,?_,rfl⟩
  unfold jO
  rw[bT,show x.by0[j]? =some k.2 from by rw[h2,C3,hk];rfl,D3,wo,D3]
  conv=>rhs;unfold partN
  rw[hk]
  dsimp only
  cases S.any (λx=>k.2==x) with
  |false=>rfl
  |true=>
   simp only[cond_true]
   rw[app1 (by omega) rfl];rfl)
 rw[h2,DM,b,c];rfl
def partP (K:List Key) (x:Pair):Pair:=⟨partN K x.Ask K.length,partN K x.Give K.length⟩
theorem Bm {a:WT}(hl:a.1.length<=1000) (x:Pair):cntM (iz a x) a.1.length 0 ([],[])=some (.inr (partN a.1 x.Ask a.1.length,partN a.1 x.Give a.1.length)):=by
 obtain⟨e,c,d⟩:=ch (f:=iz a x) (λj b=>b=(partN a.1 x.Ask j,partN a.1 x.Give j)) a.1.length (s:=([],[])) rfl (λj b hj hI=>by
  subst hI
  obtain⟨k,hk⟩:∃k,a.1[j]? =some k:=⟨_,ct hj⟩
  have:=oN a.1 x.Ask j
  have:=oN a.1 x.Give j
  refine⟨_,?_,rfl⟩
  unfold iz
  rw[bT,hk,D3,cP,D3,cP]
  conv=>rhs;unfold partN
  rw[hk]
  dsimp only
  cases x.Ask.any (λx=>k.2==x) <;> cases x.Give.any (λx=>k.2==x) <;> simp only[cond_true,cond_false,D3]
  .rw[app1 (by omega) rfl];rfl
  .rw[app1 (by omega) rfl];rfl
  .rw[app1 (by omega) rfl,D3,D3,app1 (by omega) rfl];rfl)
 rw[c,d]
def kyW (m:Machine) (d:Det) (ins:Int) (v:Key) (x:Int):Key:=keyW m d ins v.1 v.2 x
def letW (m:Machine) (ins:Int) (v:Key) (x:Int):Int:=tab m.Out v.1 x * ins+x
theorem tS (m:Machine) (d:Det) (ins:Int) (v:Key) (K:List Key):∀j:Nat,(rowW m d ins v.1 v.2 K j).1=(rowK (kyW m d ins v) K j).1/\(rowW m d ins v.1 v.2 K j).2.1=(rowK (kyW m d ins v) K j).2/\(rowW m d ins v.1 v.2 K j).2.2=(nums j).map (letW m ins v)
 |0=>⟨rfl,rfl,rfl⟩
 |j+1=>by
  obtain⟨h1,h2,b⟩:=tS m d ins v K j
  rw[oR]
  unfold stepW
  dsimp only
  have a:rowK (kyW m d ins v) K (j+1)=(addK (rowK (kyW m d ins v) K j).1 (kyW m d ins v j),(rowK (kyW m d ins v) K j).2++[atK (rowK (kyW m d ins v) K j).1 (kyW m d ins v j)]):=rfl
  rw[h1,h2,b,a,tM,C8]
  exact⟨rfl,rfl,rfl⟩
inductive RchW (ky:Key->Int->Key) (k:Nat):Key->Prop
 |zero:RchW ky k (0,0)
 |step {v:Key} {x:Nat} (h:RchW ky k v) (hx:x<k):RchW ky k (ky v x)
def ManyK (m:Machine) (d:Det) (ins:Int) (k:Nat):Prop:=∃a:List Key,256<a.length/\a.Nodup/\Kin m.Next.length d.Next.length a/\∀v∈a,RchW (kyW m d ins) k v
def InvX (m:Machine) (d:Det) (ins:Int) (k:Nat) (t:WT):Prop:=Prod (kyW m d ins) k t.1 t.2.1.toNat t.2.2.1/\t.2.2.2.1.length=t.2.2.1.length/\(∀(j:Nat) l,t.2.2.2.1[j]? =some l->∃v,t.1[j]? =some v/\l=(nums k).map (letW m ins v))/\∀v∈t.1,RchW (kyW m d ins) k v
theorem InvX.init (m:Machine) (d:Det) (ins:Int) (k:Nat):InvX m d ins k ([(0,0)],0,[],[],ixm 0 [(0,0)]):=⟨Prod.init _ _,rfl,λj b h=>by simp at h,λv a=>by rw[CC.1 a];exact .zero⟩
theorem InvX.step {m:Machine}{d:Det}{ins:Int}{k:Nat}{K:List Key}{i:Nat}{p a:VV}{w y:List (Key×Int)}(h:InvX m d ins k (K,(i:Int),p,a,w)){q r:Int}(e:K[i]? =some (q,r)):
 InvX m d ins k ((rowW m d ins q r K k).1,(i:Int)+1,p++[(rowW m d ins q r K k).2.1],a++[(rowW m d ins q r K k).2.2],y):=by
 obtain⟨h1,h2,o,c⟩:=h
 dsimp only at h1 h2 o c
 obtain⟨g,l,n⟩:=tS m d ins (q,r) K k
 dsimp only at g l n
 have f:=nt (kyW m d ins (q,r)) K k
 unfold InvX
 dsimp only
 rw[g,l,n]
 rw[DH]at h1
 have hs:=h1.step e
 have C:=h1.rl
 refine⟨?_,by simp[h2],λj z hj=>?_,λv t=>?_⟩
 .rw[show((i:Int)+1).toNat=i+1 from by omega];exact hs
 .by_cases b:j<a.length
  .rw[CZ b]at hj
   obtain⟨v,A,B⟩:=o j z hj
   exact⟨v,f.pre j v A,B⟩
  .have hjl:=(Cu.1 hj).1
   rw[Cw]at hjl
   simp only[Cy,DO]at hjl
   have:j=i:=by omega
   subst this
   have s:a.length=j:=by omega
   rw[← s]at hj
   simp at hj
   exact⟨(q,r),f.pre j _ e,hj.symm⟩
 .rcases f.mem v t with h|⟨x,u,b⟩
  .exact c v h
  .rw[b];exact .step (c _ (Db e)) u
section
variable {p:Sig}{m:Machine}{d:Det}(hs:sigOk p=true) (hm:machOk p m=true) (hd:detOk p d=true){k:Nat}(hk:pw p.In=(k:Int))
include hs hm hd hk
theorem wI:∃u t,cd (gx p m d) (2 ^ 64) (0,[0],[0],[],[])=some u/\cd (iv p m d) (2 ^ 64) ([(0,0)],0,[],[],ixm 0 [(0,0)])=some t /\
 ((∃e,u= .inr (toS e)/\t= .inr e/\InvW m d k e/\InvX m d (pw p.In) k e/\e.2.1=e.1.length)\/(u= .inl (⟨[],[],[],[]⟩,false)/\t= .inl (none,false)/\ManyK m d (pw p.In) k)):=by
 obtain⟨ak,al,am,Y,an⟩:=dm hm
 obtain⟨ac,ad,_,_⟩:=dC hd
 have ai:=gG p.In
 obtain⟨u,t,h1,h2,c⟩:=o7 (f:=gx p m d) (g:=iv p m d) (λn t=>n=toS t/\InvW m d k t/\InvX m d (pw p.In) k t) (λn=>300-n.1.toNat) (λb O=>b=(⟨[],[],[],[]⟩,false)/\O=(none,false)/\ManyK m d (pw p.In) k) (λn t=>n=toS t/\InvW m d k t/\InvX m d (pw p.In) k t/\t.2.1=t.1.length) (λn t ⟨W,hI,I⟩=>by
  subst W
  obtain⟨o,L,X,Z,aa,M,N,ab⟩:=id hI
  obtain⟨a,G,l,j,aj⟩:=t
  dsimp only at o L X Z aa M N ab
  subst N
  unfold gx iv toS
  dsimp only
  rw[DM]
  by_cases E:G<(a.length:Int)
  .obtain⟨i,rfl⟩:=dw L
   obtain⟨⟨q,b⟩,r⟩:∃v,a[i]? =some v:=⟨_,ct (by omega)⟩
   obtain⟨w,y,B,C⟩:=o _ (Db r)
   dsimp only at w y B C
   obtain⟨P,K,U⟩:=iX (xs:=m.Next) w y
   have V:P.length=k:=by have:=(Y P U).1;omega
   obtain⟨z,T⟩:=B5 hs hm hd hk w y B C o (by omega) (s1:=((i:Int),a.map (·.1),a.map (·.2),l,j)) (i:=i) rfl r
   have S:=Bq hs hm hd hk w y B C o (by omega) (x42:=(q,b)) (x47:=(q,b)) rfl rfl K
   have D:InvX m d (pw p.In) k ((rowW m d (pw p.In) q b a k).1,(i:Int)+1,l++[(rowW m d (pw p.In) q b a k).2.1],j++[(rowW m d (pw p.In) q b a k).2.2],ixm 0 (rowW m d (pw p.In) q b a k).1):=InvX.step I r
   obtain⟨H,ae,af,Q,ag,R⟩:=rD hm hd w y B C o k (by omega)
   generalize rowW m d (pw p.In) q b a k=F at *
   simp only[E,decide_true,cond_true,bT,r,D3,K,V,T,S,bU,DM]
   by_cases A:(256:Int)<(F.1.length:Int)
   .refine⟨.inl (⟨[],[],[],[]⟩,false),.inl (none,false),?_,?_,rfl,rfl,F.1,by omega,D.1.nod,H,D.2.2.2⟩
    .simp only[A,decide_true,cond_true]
    .simp only[A,decide_true,cond_true]
   .have ah:=(Cu.1 (R i _ r)).1
    refine⟨.inr (.inr (toS (F.1,(i:Int)+1,l++[F.2.1],j++[F.2.2],ixm 0 F.1))),.inr (.inr (F.1,(i:Int)+1,l++[F.2.1],j++[F.2.2],ixm 0 F.1)),?_,?_,⟨rfl,⟨H,?_,?_,?_,?_,?_,rfl,?_⟩,D⟩,?_⟩
    .simp only[A,decide_false,cond_false]
     rw[app1 (by omega) rfl,D3,app1 (by omega) rfl,D3,wr' (by omega) (by omega)]
     rfl
    .simp only[A,decide_false,cond_false]
     rw[app1 (by omega) rfl,D3,app1 (by omega) rfl,D3,wr' (by omega) (by omega)]
    .show 0<=(i:Int)+1;omega
    .show(i:Int)+1<=(F.1.length:Int);omega
    .show((l++[F.2.1]).length:Int)=(i:Int)+1;simp;omega
    .show((j++[F.2.2]).length:Int)=(i:Int)+1;simp;omega
    .intro x s
     rcases CA.1 s with s|s
     .exact M x s
     .rw[CC.1 s];exact Q
    .show F.1.length<=256;omega
    .show 300-((i:Int)+1).toNat<300-(i:Int).toNat;omega
  .refine⟨.inr (.inl (toS (a,G,l,j,ixm 0 a))),.inr (.inl (a,G,l,j,ixm 0 a)),?_,?_,rfl,hI,I,by dsimp only;omega⟩
   .simp only[E,decide_false,cond_false];rfl
   .simp only[E,decide_false,cond_false]) (2 ^ 64) (2 ^ 64) (0,[0],[0],[],[]) ([(0,0)],0,[],[],ixm 0 [(0,0)]) (by show 300-0<_;omega) (by show 300-0<_;omega) ⟨rfl,⟨λk hk=>by
    rw[CC.1 hk]
    exact⟨by simp,by show(0:Int)<_;omega,by simp,by show(0:Int)<_;omega⟩,by simp,by simp,by simp,by simp,by simp,rfl,by simp⟩,InvX.init m d (pw p.In) k⟩
 match u,t,c with
 |.inl b,.inl O,c=>exact⟨_,_,h1,h2,.inr ⟨by rw[c.1],by rw[c.2.1],c.2.2⟩⟩
 |.inr n,.inr e,c=>exact⟨_,_,h1,h2,.inl ⟨e,by rw[c.1],rfl,c.2⟩⟩
structure WK (p:Sig) (m:Machine) (d:Det) (k:Nat) (K:List Key) (w:watch):Prop where
 prod:Prod (kyW m d (pw p.In)) k K K.length w.next
 kin:Kin m.Next.length d.Next.length K
 le:K.length<=256
 let_:w.letters.length=K.length/\∀(j:Nat) v,K[j]? =some v->w.letters[j]? =some ((nums k).map (letW m (pw p.In) v))
 pairs:w.pairs=d.Pairs.map (partP K)
omit hs hm hd hk in
theorem oO (K:List Key) (S:VI):∀j,j<=K.length->partN K S j=plK (·.2) K S j
 |0,_=>rfl
 |j+1,hj=>by
  have e:=oO K S j (by omega)
  have a:plK (·.2) K S (j+1)=plK (·.2) K S j++(match K[j]? with | some v=>if v.2∈S then[(j:Int)] else[] | none=>[]):=rfl
  have c:K[j]? =some K[j]:=ct (by omega)
  have b:partN K S (j+1)=bif (match K[j]? with | some k=>S.any (λx=>k.2==x) | none=>false) then partN K S j++[(j:Int)] else partN K S j:=rfl
  rw[a,b,e,c]
  dsimp only
  by_cases h:K[j].2∈S
  .have:S.any (λx=>K[j].2==x)=true:=List.any_eq_true.2 ⟨_,h,by simp⟩
   rw[this,cond_true,if_pos h]
  .have:S.any (λx=>K[j].2==x)=false:=by
    rw[List.any_eq_false];intro x d;simp;exact λa=>h (a ▸ d)
   rw[this,cond_false,if_neg h,Ey]
theorem tx:(j7 p m d=some (⟨[],[],[],[]⟩,false)/\lb p m d=some (none,false)/\ManyK m d (pw p.In) k) \/
 ∃(g:l30Graph) (w:watch) (K:List Key),j7 p m d=some (g,true)/\lb p m d=some (some w,true)/\cntM (fP d (g,true)) d.Pairs.length 0 []=some (.inr w.pairs)/\g.next=w.next/\g.letters=w.letters/\WK p m d k K w:=by
 have S:=gG p.In
 obtain⟨_,_,R,_⟩:=dC hd
 obtain⟨Z,t,h1,h2,z⟩:=wI hs hm hd hk
 have E:j6 ⟨[],[],[],[]⟩ 0 0=some (0,[0],[0]):=by
  rw[xJ (K:=[]) rfl rfl (by simp)];rfl
 have I:mset kwI2 ([]:List (Key×Int)) ((0,0):Key) 0=some (ixm 0 [(0,0)]):=by decide
 unfold j7 lb
 rw[E,D3,I,D3]
 dsimp only
 rw[h1,h2,D3,D3]
 rcases z with ⟨a,rfl,rfl,hI,C,hl⟩|⟨rfl,rfl,D⟩
 .right
  obtain⟨A,T,U,V,W,X,Y,M⟩:=hI
  obtain⟨u,ab,Q,_⟩:=C
  have B:∀(g:l30Graph×Bool),g.1.by0=a.1.map (·.2)->cntM (fP d g) d.Pairs.length 0 []=some (.inr (d.Pairs.map (partP a.1)))/\cntM (iy d a) d.Pairs.length 0 []=some (.inr (d.Pairs.map (partP a.1))):=λg q=>by
   have F:∀(c:VP) (l:VP),c.foldl (λb y=>b++[partP a.1 y]) l=l++c.map (partP a.1):=λc=>by
    induction c with
    |nil=>intro l;simp
    |cons x c L=>intro l;rw[List.foldl_cons,L];simp
   obtain⟨n,_⟩:=qn (f:=fP d g) (λb y=>b++[partP a.1 y]) (λj b=>b.length=j) (xs:=d.Pairs) (λi y b e hs=>by
    have G:=(Cu.1 e).1
    refine⟨?_,by simp[hs]⟩
    unfold fP
    rw[bT,e,D3,D3,zT q (by omega),D3,zT q (by omega),D3,app1 (by omega) rfl];rfl) (s:=[]) rfl
   obtain⟨o,_⟩:=qn (f:=iy d a) (λb y=>b++[partP a.1 y]) (λj b=>b.length=j) (xs:=d.Pairs) (λi y b e hs=>by
    have G:=(Cu.1 e).1
    refine⟨?_,by simp[hs]⟩
    unfold iy
    rw[bT,e,D3,Bm (by omega),D3]
    simp only[bU]
    rw[app1 (by omega) rfl];rfl) (s:=[]) rfl
   rw[F,Er]at n o
   exact⟨n,o⟩
  obtain⟨N,O⟩:=B (⟨a.1.map (·.1),a.1.map (·.2),a.2.2.1,a.2.2.2.1⟩,true) rfl
  have H:a.2.1.toNat=a.1.length:=by omega
  rw[H]at u
  refine⟨⟨a.1.map (·.1),a.1.map (·.2),a.2.2.1,a.2.2.2.1⟩,⟨a.2.2.1,a.2.2.2.1,d.Pairs.map (partP a.1)⟩,a.1,rfl,?_,N,rfl,rfl,u,A,M,⟨?_,λj v r=>?_⟩,rfl⟩
  .simp only[bU]
   rw[O];rfl
  .show a.2.2.2.1.length=a.1.length;omega
  .have hj:=(Cu.1 r).1
   have hjl:j<a.2.2.2.1.length:=by omega
   obtain⟨aa,s,P⟩:=Q j _ (ct hjl)
   rw[r]at s
   cases s
   show a.2.2.2.1[j]? =_
   rw[ct hjl,P]
 .exact .inl ⟨rfl,rfl,D⟩
end
section
open Classical
inductive Wy (sc:Int->VI) (D:Int->Prop):Int->Int->Prop
 |one {x} (h:¬D x):Wy sc D x x
 |cons {x y z} (h:¬D x) (e:y∈sc x) (w:Wy sc D y z):Wy sc D x z
namespace Wy
variable {sc bk:Int->VI}{D D':Int->Prop}{x y z:Int}
theorem first (w:Wy sc D x y):¬D x:=by cases w <;> assumption
theorem last (w:Wy sc D x y):¬D y:=by induction w <;> assumption
theorem trans (w:Wy sc D x y) (v:Wy sc D y z):Wy sc D x z:=by
 induction w with
 |one _=>exact v
 |cons h a _ b=>exact .cons h a (b v)
theorem snoc (w:Wy sc D x y) (a:z∈sc y) (h:¬D z):Wy sc D x z:=w.trans (.cons w.last a (.one h))
theorem mono (h:∀x,D' x->D x) (w:Wy sc D x y):Wy sc D' x y:=by
 induction w with
 |one k=>exact .one λd=>k (h _ d)
 |cons k a _ b=>exact .cons (λd=>k (h _ d)) a b
theorem rev (b:∀x y,y∈bk x->x∈sc y) (w:Wy bk D x y):Wy sc D y x:=by
 induction w with
 |one k=>exact .one k
 |cons k a _ c=>exact c.snoc (b _ _ a) k
theorem closed {T:Int->Prop}(e:∀b a,T b->a∈sc b->¬D a->T a) (w:Wy sc D x y) (c:T x):T y:=by
 induction w with
 |one _=>exact c
 |cons _ d w f=>exact f (e _ _ c d w.first)
theorem either {T:Int->Prop}(e:∀a c,T a->c∈sc a->¬D c->T c) (w:Wy sc D x y):T y\/Wy sc (λa=>D a\/T a) x y:=by
 induction w with
 | @one x k=>
  by_cases t:T x
  .exact .inl t
  .exact .inr (.one λh=>h.elim k t)
 | @cons x y z k d w b=>
  rcases b with b|b
  .exact .inl b
  .by_cases t:T x
   .exact .inl (w.closed e (e _ _ t d w.first))
   .exact .inr (.cons (λh=>h.elim k t) d b)
theorem avoid {u:Int}(w:Wy sc D x y):Wy sc D x u\/Wy sc (λb=>D b\/b=u) x y:=by
 induction w with
 | @one x k=>
  by_cases t:x=u
  .subst t;exact .inl (.one k)
  .exact .inr (.one λh=>h.elim k t)
 | @cons x y z k c w a=>
  rcases a with a|a
  .exact .inl (.cons k c a)
  .by_cases t:x=u
   .subst t;exact .inl (.one k)
   .exact .inr (.cons (λh=>h.elim k t) c a)
end Wy
inductive Dfs (sc:Int->VI):(Int->Prop)->VI->VI->Prop
 |nil {D}:Dfs sc D [] []
 |skip {D u us S} (h:D u) (k:Dfs sc D us S):Dfs sc D (u::us) S
 |step {D u us S1 S2} (h:¬D u) (k1:Dfs sc (λx=>D x\/x=u) (sc u) S1) (k2:Dfs sc (λx=>D x\/x=u\/x∈S1) us S2):Dfs sc D (u::us) (S1++u::S2)
namespace Dfs
variable {sc bk:Int->VI}{D:Int->Prop}{us S:VI}
theorem out (k:Dfs sc D us S):∀x∈S,¬D x:=by
 induction k with
 |nil=>intro x h;cases h
 |skip _ _ ih=>exact ih
 |step h _ _ c e=>
  intro x a
  rcases CA.1 a with a|a
  .exact λd=>c x a (.inl d)
  .rcases CB.1 a with b|a
   .subst b;exact h
   .exact λd=>e x a (.inl d)
theorem nodup (k:Dfs sc D us S):S.Nodup:=by
 induction k with
 |nil=>exact List.nodup_nil
 |skip _ _ ih=>exact ih
 |step h k1 c d e=>
  refine DT.2 ⟨d,Ed.2 ⟨λhm=>c.out _ hm (.inr (.inl rfl)),e⟩,λf ha g b a=>?_⟩
  subst a
  rcases CB.1 b with a|b
  .exact k1.out _ ha (.inr a)
  .exact c.out _ b (.inr (.inr ha))
theorem clo (k:Dfs sc D us S):(∀b∈us,D b\/b∈S)/\∀x∈S,∀y∈sc x,D y\/y∈S:=by
 induction k with
 |nil=>exact⟨λb h=>(by cases h),λb h=>(by cases h)⟩
 |skip h _ ih=>
  refine⟨λb g=>?_,ih.2⟩
  rcases CB.1 g with c|g
  .subst c;exact .inl h
  .exact ih.1 b g
 | @step D b us f S2 h k1 o l n=>
  have i:∀y,(D y\/y=b)\/y∈f->D y\/y∈f++b::S2:=λy e=>by
   rcases e with (d|c)|m
   .exact .inl d
   .subst c;exact .inr (by simp)
   .exact .inr (by simp[m])
  have j:∀y,(D y\/y=b\/y∈f)\/y∈S2->D y\/y∈f++b::S2:=λy e=>by
   rcases e with (d|c|m)|m
   .exact .inl d
   .subst c;exact .inr (by simp)
   .exact .inr (by simp[m])
   .exact .inr (by simp[m])
  refine⟨λx a=>?_,λx a y e=>?_⟩
  .rcases CB.1 a with c|a
   .subst c;exact .inr (by simp)
   .exact j _ (n.1 x a)
  .rcases CA.1 a with a|a
   .exact i _ (l.2 x a y e)
   .rcases CB.1 a with c|a
    .subst c;exact i _ (l.1 y e)
    .exact j _ (n.2 x a y e)
theorem sound (k:Dfs sc D us S):∀x∈S,∃b∈us,Wy sc D b x:=by
 induction k with
 |nil=>intro x h;cases h
 |skip _ _ ih=>
  intro x a
  obtain⟨b,h1,h2⟩:=ih x a
  exact⟨b,C9 _ h1,h2⟩
 | @step D b us i S2 h k1 j f g=>
  intro x a
  rcases CA.1 a with a|a
  .obtain⟨c,h1,h2⟩:=f x a
   exact⟨b,by simp,.cons h h1 (h2.mono λ_ d=> .inl d)⟩
  .rcases CB.1 a with e|a
   .subst e;exact⟨x,by simp,.one h⟩
   .obtain⟨c,h1,h2⟩:=g x a
    exact⟨c,C9 _ h1,h2.mono λ_ d=> .inl d⟩
theorem mem_iff (k:Dfs sc D us S) (x:Int):x∈S↔∃c∈us,Wy sc D c x:=by
 refine⟨k.sound x,λ⟨c,h1,h2⟩=>?_⟩
 have d:∀a b,a∈S->b∈sc a->¬D b->b∈S:=λa b ha e hd=>(k.clo.2 a ha b e).resolve_left hd
 exact h2.closed (T:=λa=>a∈S) d ((k.clo.1 c h1).resolve_left h2.first)
theorem kos (k:Dfs sc D us S):∀x∈S,∀v,Wy sc D x v->∃f,Wy sc D x f/\Wy sc D f x/\∃A B,S=A++f::B/\(v∈A\/v=f):=by
 induction k with
 |nil=>intro x h;cases h
 |skip _ _ ih=>exact ih
 | @step D b us g S2 h k1 F y z=>
  intro x u v w
  have q:∀a i,(a∈g\/a=b)->i∈sc a->¬D i->(i∈g\/i=b):=λa i ha r hd=>by
   have:(D i\/i=b)\/i∈g:=by
    rcases ha with ha|ha
    .exact k1.clo.2 a ha i r
    .subst ha;exact k1.clo.1 i r
   rcases this with (d|e)|m
   .exact absurd d hd
   .exact .inr e
   .exact .inl m
  have p:Wy sc D x b->(x∈g\/x=b)->∃f,Wy sc D x f/\Wy sc D f x/\∃A B,g++b::S2=A++f::B/\(v∈A\/v=f):=λl s=>by
   refine⟨b,l,?_,g,S2,rfl,w.closed (T:=λa=>a∈g\/a=b) q s⟩
   rcases s with m|e
   .obtain⟨c,h1,h2⟩:=k1.sound x m
    exact .cons h h1 (h2.mono λ_ d=> .inl d)
   .subst e;exact .one h
  rcases CA.1 u with m|m
  .by_cases l:Wy sc D x b
   .exact p l (.inl m)
   .rcases w.avoid (u:=b) with k|k
    .exact absurd k l
    .obtain⟨f,n,o,A,B,e,j⟩:=y x m v k
     exact⟨f,n.mono λ_ d=> .inl d,o.mono λ_ d=> .inl d,A,B++b::S2,by rw[e];simp,j⟩
  .rcases CB.1 m with e|m
   .subst e;exact p (.one w.first) (.inr rfl)
   .rcases w.either (T:=λa=>a∈g\/a=b) q with t|t
    .obtain⟨A,B,e⟩:=List.append_of_mem m
     refine⟨x,.one w.first,.one w.first,g++b::A,B,by rw[e];simp,.inl ?_⟩
     rcases t with t|t
     .simp[t]
     .simp[t]
    .have E:Wy sc (λa=>D a\/a=b\/a∈g) x v:=t.mono λa ha=>by
      rcases ha with d|e|C
      .exact .inl d
      .exact .inr (.inr e)
      .exact .inr (.inl C)
     obtain⟨f,n,o,A,B,e,j⟩:=z x m v E
     refine⟨f,n.mono λ_ d=> .inl d,o.mono λ_ d=> .inl d,g++b::A,B,by rw[e];simp,?_⟩
     rcases j with j|j
     .exact .inl (by simp[j])
     .exact .inr j
end Dfs
inductive Kos (bk:Int->VI):(Int->Prop)->VI->VV->Prop
 |nil {D}:Kos bk D [] []
 |skip {D v R P} (h:D v) (k:Kos bk D R P):Kos bk D (v::R) P
 |step {D v R S P} (h:¬D v) (d:Dfs bk D [v] S) (k:Kos bk (λx=>D x\/x∈S) R P):Kos bk D (v::R) (S::P)
def noV:Int->Prop:=λ_=>False
def Akin (sc:Int->VI) (x y:Int):Prop:=Wy sc noV x y/\Wy sc noV y x
section
variable {sc bk:Int->VI}
theorem Akin.refl (x:Int):Akin sc x x:=⟨.one id,.one id⟩
theorem Akin.symm {x y:Int}(h:Akin sc x y):Akin sc y x:=⟨h.2,h.1⟩
theorem Akin.trans {x y z:Int}(h:Akin sc x y) (k:Akin sc y z):Akin sc x z:=⟨h.1.trans k.1,k.2.trans h.2⟩
theorem ahead {Q R A B:VI}{v y:Int}(hn:(Q++v::R).Nodup) (c:Q++v::R=B++y::A) (h:v∈A):y∈Q:=by
 have i:y∈Q++v::R:=by rw[c];simp
 rcases CA.1 i with m|m
 .exact m
 .exfalso
  have h1:(B++y::A).Nodup:=by rw[← c];exact hn
  obtain⟨n,o,k⟩:=DT.1 hn
  obtain⟨l,e,j⟩:=DT.1 h1
  have f:v∉B:=λg=>j v g v (C9 _ h) rfl
  -- v stands in A, so B ++ [y] is ahead of it: it is a part of Q
  rcases List.append_eq_append_iff.1 c with ⟨T,d,b⟩|⟨T,d,b⟩
  .cases T with
   |nil=>
    rw[Er]at b
    injection b with e3 e4
    subst e3
    exact(Ed.1 e).1 h
   |cons t T=>
    injection b with e3 e4
    subst e3
    exact f (by rw[d];simp)
  .cases T with
   |nil=>
    rw[Er]at b
    injection b with e3 e4
    subst e3
    exact(Ed.1 e).1 h
   |cons t T=>
    injection b with e3 e4
    subst e3
    exact k y (by rw[d];simp) y m rfl
theorem yy {L:VI}(I:∀x y,y∈bk x↔x∈sc y){ad:VI}(hd:Dfs sc noV ad L) (X:∀e f,f∈sc e->e∈L):
 ∀(D:Int->Prop) (R:VI) (P:VV),Kos bk D R P->∀Q,L.reverse=Q++R->(∀x,D x↔∃q∈Q,Akin sc q x) ->
 (∀S∈P,S.Nodup/\∃v∈R,(¬D v)/\∀x,x∈S↔Akin sc v x)/\(∀v∈R,D v\/∃S∈P,v∈S)/\P.Pairwise (λS T=>∀x∈S,x∉T)/\∀S∈P,∀x∈S,¬D x:=by
 intro D R P hk
 induction hk with
 |nil=>exact λQ _ _=>⟨λS h=>(by cases h),λS h=>(by cases h),List.Pairwise.nil,λS h=>by cases h⟩
 | @skip D v R P h k r=>
  intro Q j i
  obtain⟨C,E,F,t⟩:=r (Q++[v]) (by rw[j];simp) (λx=>by
   rw[i]
   refine⟨λ⟨q,h1,h2⟩=>⟨q,by simp[h1],h2⟩,λ⟨q,h1,h2⟩=>?_⟩
   rcases CA.1 h1 with m|m
   .exact⟨q,m,h2⟩
   .rw[CC]at m
    subst m
    obtain⟨p,l,G⟩:=(i q).1 h
    exact⟨p,l,G.trans h2⟩)
  refine⟨λS n=>?_,λx b=>?_,F,t⟩
  .obtain⟨h1,y,h2,l⟩:=C S n
   exact⟨h1,y,C9 _ h2,l⟩
  .rcases CB.1 b with a|b
   .subst a;exact .inl h
   .exact E x b
 | @step D v R S P h d k r=>
  intro Q j i
  have aa:v∈L:=by
   have:v∈L.reverse:=by rw[j];simp
   exact List.mem_reverse.1 this
  have n:∀x,x∈S↔Akin sc v x:=λx=>by
   rw[d.mem_iff]
   constructor
   .rintro⟨H,K,w⟩
    rw[CC]at K
    subst K
    have s:=w.rev (sc:=sc) (λe f a=>(I e f).1 a)
    have b:x∈L:=by
     cases s with
     |one _=>exact aa
     |cons _ a _=>exact X _ _ a
    obtain⟨U,N,O,A,B,a,o⟩:=hd.kos x b H (s.mono λ_ W=>W.elim)
    rcases o with o|o
    .exfalso
     have V:Q++H::R=B.reverse++U::A.reverse:=by rw[← j,a];simp
     have hn:(Q++H::R).Nodup:=by rw[← j];exact(List.reverse_perm L).nodup_iff.2 hd.nodup
     have Z:=ahead hn V (List.mem_reverse.2 o)
     exact w.last ((i x).2 ⟨U,Z,O,N⟩)
    .subst o;exact⟨O,N⟩
   .intro b
    refine⟨v,by simp,?_⟩
    have M:∀y,Akin sc v y->¬D y:=λy ab Y=>by
     obtain⟨q,h1,h2⟩:=(i y).1 Y
     exact h ((i v).2 ⟨q,h1,h2.trans ab.symm⟩)
    have ac:∀{e f:Int},Wy sc noV e f->Wy sc noV f e->Akin sc v f->Wy sc D e f:=λ{e f} w=>by
     induction w with
     |one _=>exact λ_ u=> .one (M _ u)
     | @cons e c f h a w r=>exact λs u=> .cons (M _ (u.trans ⟨s,.cons h a w⟩)) a (r (s.snoc a id) u)
    exact(ac b.2 b.1 (Akin.refl v)).rev λe f a=>(I f e).2 a
  obtain⟨C,E,F,t⟩:=r (Q++[v]) (by rw[j];simp) (λx=>by
   show(D x\/x∈S)↔_
   rw[i,n]
   constructor
   .rintro(⟨q,h1,h2⟩|h2)
    .exact⟨q,by simp[h1],h2⟩
    .exact⟨v,by simp,h2⟩
   .rintro⟨q,h1,h2⟩
    rcases CA.1 h1 with m|m
    .exact .inl ⟨q,m,h2⟩
    .rw[CC]at m
     subst m;exact .inr h2)
  refine⟨λT g=>?_,λx b=>?_,List.pairwise_cons.2 ⟨λT g x b z=>t T g x z (.inr b),F⟩,λT g x b z=>?_⟩
  .rcases CB.1 g with a|g
   .subst a
    exact⟨d.nodup,v,by simp,h,n⟩
   .obtain⟨h1,y,h2,l,G⟩:=C T g
    exact⟨h1,y,C9 _ h2,λk=>l (.inl k),G⟩
  .rcases CB.1 b with a|b
   .subst a;exact .inr ⟨S,by simp,(n x).2 (Akin.refl x)⟩
   .rcases E x b with (k|k)|⟨T,h1,h2⟩
    .exact .inl k
    .exact .inr ⟨S,by simp,k⟩
    .exact .inr ⟨T,C9 _ h1,h2⟩
  .rcases CB.1 g with a|g
   .subst a;exact d.out x b z
   .exact t T g x b (.inl z)
end
end
section
open Classical
def Mk (n:Nat) (d:VB) (S:VI) (a:VB):Prop:=a.length=n/\∀x,In a x↔In d x\/x∈S
theorem Mk.cnt {n:Nat}{d a:VB}{S:VI}(h:Mk n d S a) (hn:S.Nodup) (hd:∀x∈S,¬In d x):cnt d+S.length<=cnt a:=by
 have h1:(cU d d.length++S).Nodup:=DT.2 ⟨kS _ _,hn,λg ha b e c=>hd b e (c ▸ cK.1 ha)⟩
 have:=oL h1 (ys:=cU a a.length) (λx f=>cK.2 ((h.2 x).2 ((CA.1 f).imp cK.1 id)))
 rw[Cw]at this
 exact this
theorem Mk.eq {n:Nat}{d a:VB}{S:VI}(h:Mk n d S a):In a=λx=>In d x\/x∈S:=funext λx=>propext (h.2 x)
theorem Dfs.nil_eq {sc:Int->VI}{D:Int->Prop}{S:VI}(k:Dfs sc D [] S):S=[]:=by cases k;rfl
theorem Dfs.cat {sc:Int->VI}{D:Int->Prop}{u:Int}{us S T:VI}(h:¬D u) (k:Dfs sc D [u] S) (k2:Dfs sc (λx=>D x\/x∈S) us T):Dfs sc D (u::us) (S++T):=by
 generalize e:[u]=l at k
 cases k with
 |nil=>cases e
 |skip b _=>
  injection e with e1 _
  subst e1;exact absurd b h
 | @step _ _ _ a S2 b k1 f=>
  injection e with e1 e2
  subst e1 e2
  have c:=f.nil_eq
  subst c
  have d:(λx=>D x\/x∈a++[u])=λx=>D x\/x=u\/x∈a:=funext λx=>propext (by simp only[CA,CC];constructor <;> (rintro(h|h|h) <;> simp[h]))
  rw[d]at k2
  have:=Dfs.step h k1 k2
  simpa using this
theorem idxB {B:VB}{v:Int}(h:¬In B v) (h0:0<=v) (h1:v<B.length):idx B v=some false:=by rw[dv h0 h1,decide_eq_false h]
theorem setT {d:VB}{n:Nat}{v:Int}(hd:d.length=n) (h0:0<=v) (h1:v<n):∃y,setI d v true=some y/\Mk n d [v] y:=by
 obtain⟨y,b,hl⟩:=cS (xs:=d) (i:=v) true h0 (by omega)
 refine⟨y,b,by omega,λx=>?_⟩
 unfold In
 rw[cV b,CC]
 by_cases a:x=v
 .rw[if_pos a];simp[a]
 .rw[if_neg a];simp[a]
abbrev VS:=VI×VB
theorem pK {u:Type}{f:Int->VS->Option (u⊕(VS⊕VS))}{sc:Int->VI}{M:VB}{n c0:Nat}:
 ∀(us:VI) (j:Nat) (a:VI) (d:VB),
 (∀(i:Nat) b a d,us[i]? =some b->d.length=n->a.length<=cnt d->c0<=cnt d ->
  (¬(In M b/\¬In d b)->f ((j+i:Nat):Int) (a,d)=some (.inr (.inr (a,d)))) /\
  (In M b->¬In d b->∃S c,f ((j+i:Nat):Int) (a,d)=some (.inr (.inr (a++S,c)))/\Mk n d S c/\Dfs sc (In d) [b] S)) ->
 d.length=n->a.length<=cnt d->c0<=cnt d ->
 ∃S c,cntM f us.length (j:Int) (a,d)=some (.inr (a++S,c))/\Mk n d S c/\Dfs sc (In d) (us.filter (λb=>decide (In M b))) S
 | [],j,a,d,_,hd,_,_=>⟨[],d,by rw[Ey];rfl,⟨hd,λx=>by simp⟩,.nil⟩
 |b::us,j,a,d,h,hd,ho,hc=>by
  obtain⟨h1,h2⟩:=h 0 b a d rfl hd ho hc
  have r:∀(i:Nat) w a d,us[i]? =some w->d.length=n->a.length<=cnt d->c0<=cnt d ->
   (¬(In M w/\¬In d w)->f (((j+1)+i:Nat):Int) (a,d)=some (.inr (.inr (a,d)))) /\
   (In M w->¬In d w->∃S c,f (((j+1)+i:Nat):Int) (a,d)=some (.inr (.inr (a++S,c)))/\Mk n d S c/\Dfs sc (In d) [w] S):=λi w a d t=>by
   have:=h (i+1) w a d (by simpa using t)
   rw[show j+(i+1)=(j+1)+i from by omega]at this
   exact this
  by_cases hm:In M b/\¬In d b
  .obtain⟨S,q,s,g,k1⟩:=h2 hm.1 hm.2
   have v:=g.cnt k1.nodup k1.out
   obtain⟨T,l,o,k,e⟩:=pK us (j+1) (a++S) q r g.1 (by rw[Cw];omega) (by omega)
   refine⟨S++T,l,?_,⟨k.1,λx=>?_⟩,?_⟩
   .show Dl (f (j:Int) (a,d)) _=_
    have m:f (j:Int) (a,d)=_:=s
    rw[m,D3]
    show cntM f us.length ((j:Int)+1) (a++S,q)=_
    have:((j:Int)+1)=((j+1:Nat):Int):=rfl
    rw[this,o,CS]
   .rw[k.2,g.2,CA,or_assoc]
   .rw[List.filter_cons,if_pos (by simpa using hm.1)]
    rw[g.eq]at e
    exact Dfs.cat hm.2 k1 e
  .obtain⟨T,l,o,k,e⟩:=pK us (j+1) a d r hd ho hc
   refine⟨T,l,?_,k,?_⟩
   .show Dl (f (j:Int) (a,d)) _=_
    have m:f (j:Int) (a,d)=_:=h1 hm
    rw[m,D3]
    exact o
   .rw[List.filter_cons]
    by_cases p:In M b
    .rw[if_pos (by simpa using p)]
     exact .skip (DF λhn=>hm ⟨p,hn⟩) e
    .rw[if_neg (by simpa using p)]
     exact e
theorem wH:∀m,cq m=ca m
 |0=>rfl
 |m+1=>by
  show cJ (cq m)=cv (ca m)
  rw[wH m];rfl
theorem xC {T:VV}{M:VB}{n:Nat}{sc:Int->VI}(E:T.length=n) (q:M.length=n) (hn:n<=256)
 (s:∀v a,idx T v=some a->∀c∈a,0<=c/\c<n) (hs:∀v a,In M v->idx T v=some a->sc v=a.filter (λc=>decide (In M c))):
 ∀(m:Nat) (v:Int) (b:VI) (d:VB),In M v->¬In d v->d.length=n->b.length<=cnt d->n<m+cnt d ->
 ∃S e,ca m v T b d M=some (b++S,e)/\Mk n d S e/\Dfs sc (In d) [v] S
 |0,v,b,d,_,_,hd,_,hm=>absurd hm (by have:=kN d;omega)
 |m+1,v,b,d,hv,hdv,hd,r,hm=>by
  obtain⟨p,K⟩:=eD q hv
  obtain⟨y,H,j⟩:=setT hd p K
  obtain⟨a,o⟩:=cF (xs:=T) (i:=v) p (by omega)
  have F:=j.cnt (by simp) (λx u=>by rw[CC]at u;subst u;exact hdv)
  simp only[Cy,DO]at F
  have O:=kN y
  obtain⟨S,l,A,g,k1⟩:=pK (f:=cu (ca m) T M a) (sc:=sc) (M:=M) (n:=n) (c0:=cnt y) a 0 b y (λi c b d t hd r L=>by
   obtain⟨w,R⟩:=s v a o c (Db t)
   unfold cu
   rw[Nat.zero_add,bT,t,D3,dv (B:=M) w (by omega),D3,dv (B:=d) w (by omega)]
   refine⟨λG=>?_,λh1 h2=>?_⟩
   .by_cases h1:In M c
    .have h2:In d c:=DF λh=>G ⟨h1,h⟩
     simp only[decide_eq_true h1,decide_eq_true h2,cond_true,D3,DD,cond_false]
    .simp only[decide_eq_false h1,cond_false,D3]
   .obtain⟨S,e,z,I,k⟩:=xC E q hn s hs m c b d h1 h2 hd r (by omega)
    refine⟨S,e,?_,I,k⟩
    simp only[decide_eq_true h1,decide_eq_false h2,cond_true,D3,Bool.not_false,z]) j.1 (by omega) (CK _)
  have N:=g.cnt k1.nodup k1.out
  have P:=kN l
  have Q:l.length=n:=g.1
  refine⟨S++[v],l,?_,⟨g.1,λx=>?_⟩,?_⟩
  .show cv (ca m) v T b d M=_
   unfold cv
   rw[idxB hdv p (by omega),D3,H,D3,o,D3]
   have C:cntM (cu (ca m) T M a) a.length 0 (b,y)=_:=A
   rw[C,D3,bU]
   unfold mq
   dsimp only
   rw[app1 (by rw[Cw];omega) rfl,D3,D3,CS]
  .rw[g.2,j.2,CA,CC]
   constructor
   .rintro((h|h)|h)
    .exact .inl h
    .exact .inr (.inr h)
    .exact .inr (.inl h)
   .rintro(h|h|h)
    .exact .inl (.inl h)
    .exact .inr h
    .exact .inl (.inr h)
  .rw[← hs v a hv o,j.eq]at k1
   have D:(λx=>In d x\/x∈[v])=λx=>In d x\/x=v:=funext λx=>propext (by rw[CC])
   rw[D]at k1
   exact Dfs.step hdv k1 .nil
end
section
open Classical
structure Gr (N:VV) (M:VB) (n:Nat):Prop where
 ln:N.length=n
 lm:M.length=n
 le:n<=256
 row:∀v r,idx N v=some r->r.length<=10000/\∀u∈r,0<=u/\u<n
noncomputable def scN (N:VV) (M:VB) (v:Int):VI:=if In M v then((idx N v).getD []).filter (λa=>decide (In M a)) else[]
theorem dO {N:VV}{M:VB}{v u:Int}:u∈scN N M v↔In M v/\In M u/\∃a,idx N v=some a/\u∈a:=by
 unfold scN
 by_cases h:In M v
 .rw[if_pos h,DQ,decide_eq_true_eq]
  cases b:idx N v with
  |none=>simp
  |some a=>simp[h,and_comm]
 .rw[if_neg h];simp[h]
def rowI' (N:VV) (v:Int):VI:=(idx N v).getD []
def Far (sc:Int->VI) (v:Int):Prop:=∃y∈sc v,Wy sc noV y v
def Far2 (sc:Int->VI) (v u:Int):Prop:=∃y∈sc v,Wy sc noV y u
section
variable {sc:Int->VI}
theorem Wy.far {v u:Int}(w:Wy sc noV v u) (h:v≠u):Far2 sc v u:=by
 cases w with
 |one _=>exact absurd rfl h
 |cons _ a w=>exact⟨_,a,w⟩
theorem Far2.wy {v u:Int}(h:Far2 sc v u):Wy sc noV v u:=by
 obtain⟨y,h1,h2⟩:=h
 exact .cons id h1 h2
theorem Wy.snoc_in {D:Int->Prop}{v u:Int}(w:Wy sc D v u):v=u\/∃z,u∈sc z:=by
 induction w with
 |one _=>exact .inl rfl
 |cons _ a _ b=>
  rcases b with h|h
  .subst h;exact .inr ⟨_,a⟩
  .exact .inr h
theorem rG {v u:Int}(h:Akin sc v u) (a:v≠u):Far sc v/\Far sc u:=by
 obtain⟨y,h1,h2⟩:=h.1.far a
 obtain⟨z,b,c⟩:=h.2.far (Ne.symm a)
 exact⟨⟨y,h1,h2.trans h.2⟩,⟨z,b,c.trans h.1⟩⟩
theorem Far.akin {v u:Int}(h:Far sc v) (k:Akin sc v u):Far sc u:=by
 by_cases a:v=u
 .subst a;exact h
 .exact(rG k a).2
end
theorem po (B:VB) (j:Nat):Asc (cU B j):=by
 unfold cU
 rw[Asc,EA]
 refine List.Pairwise.filter _ ?_
 exact List.pairwise_lt_range.imp λh=>by
  show(_:Int)<_
  exact Int.ofNat_lt.2 h
noncomputable def partG (N:VV) (M:VB) (v:Int):VI:=(cU M M.length).filter (λa=>decide (Akin (scN N M) v a))
def Lead (sc:Int->VI) (v:Int):Prop:=Far sc v/\∀w,w<v->¬Akin sc w v
noncomputable def loopsN (N:VV) (M:VB):VV:=((cU M M.length).filter (λv=>decide (Lead (scN N M) v))).map (partG N M)
section
variable {N:VV}{M:VB}
theorem gp {v u:Int}:u∈partG N M v↔In M u/\Akin (scN N M) v u:=by
 unfold partG
 rw[DQ,cK,decide_eq_true_eq]
theorem mU (v:Int):Asc (partG N M v):=(po _ _).filter _
theorem vZ {v u:Int}(h:Akin (scN N M) v u):partG N M v=partG N M u:=
 nM (mU _) (mU _) λz=>by
  rw[gp,gp]
  exact⟨λ⟨a,b⟩=>⟨a,h.symm.trans b⟩,λ⟨a,b⟩=>⟨a,h.trans b⟩⟩
theorem nO {v:Int}(h:Far (scN N M) v):In M v:=by
 obtain⟨y,h1,_⟩:=h
 exact(dO.1 h1).1
def hdI (l:VI):Int:=l.headD 0
theorem sq {v:Int}(h:Far (scN N M) v):∃t,partG N M v=hdI (partG N M v)::t/\Akin (scN N M) v (hdI (partG N M v))/\Lead (scN N M) (hdI (partG N M v)):=by
 have e:v∈partG N M v:=gp.2 ⟨nO h,Akin.refl v⟩
 cases a:partG N M v with
 |nil=>rw[a]at e;cases e
 |cons x t=>
  have j:x∈partG N M v:=by rw[a];simp
  obtain⟨k,b⟩:=gp.1 j
  refine⟨t,rfl,b,h.akin b,λw d hk=>?_⟩
  have g:Akin (scN N M) v w:=b.trans hk.symm
  have f:w∈partG N M v:=gp.2 ⟨nO (h.akin g),g⟩
  rw[a]at f
  have i:Asc (x::t):=by rw[← a];exact mU v
  rcases CB.1 f with c|c
  .have:w<w:=by rw[← c]at d;exact d
   omega
  .have:=(List.pairwise_cons.1 i).1 w c
   have:w<x:=d
   omega
theorem AB {v:Int}(h:Lead (scN N M) v):hdI (partG N M v)=v:=by
 obtain⟨t,h1,h2,e⟩:=sq h.1
 have a:=h.2 (hdI (partG N M v))
 have b:=e.2 v
 have c:¬hdI (partG N M v)<v:=λk=>a k h2.symm
 have d:¬v<hdI (partG N M v):=λk=>b k h2
 omega
theorem AC {a b:Int}{s t:VI}(h:leI (a::s) (b::t)=true) (d:a≠b):a<b:=by
 unfold leI lexI at h
 have:¬Go.Lib.compareInt a b=0:=λc=>d (cmpI_eq.1 c)
 rw[if_neg this,decide_eq_true_eq]at h
 exact cmpI_lt.1 (by omega)
theorem xB {P:VV}(h1:∀S∈P,∃v,Far (scN N M) v/\S=partG N M v) (h2:∀v,Far (scN N M) v->partG N M v∈P) (q:P.Pairwise (λS T=>∀x∈S,x∉T)):P.mergeSort leI=loopsN N M:=by
 have k:∀S∈P,S=partG N M (hdI S)/\Lead (scN N M) (hdI S)/\∃t,S=hdI S::t:=λS a=>by
  obtain⟨v,p,f⟩:=h1 S a
  obtain⟨t,k1,n,o⟩:=sq p
  rw[← f]at k1 n o
  exact⟨f.trans (vZ n),o,t,k1⟩
 have l:=List.mergeSort_perm P leI
 have e:∀S∈P.mergeSort leI,S=partG N M (hdI S)/\Lead (scN N M) (hdI S)/\∃t,S=hdI S::t:=λS a=>k S (l.mem_iff.1 a)
 have u:(P.map hdI).Nodup:=by
  rw[List.Nodup,EA]
  refine q.imp_of_mem λ{S T} a j hd f=>?_
  obtain⟨_,_,y,g⟩:=k S a
  obtain⟨_,_,t,i⟩:=k T j
  refine hd (hdI S) (by rw[g];simp[hdI]) ?_
  rw[i,← f];simp[hdI]
 have m:((P.mergeSort leI).map hdI).Nodup:=((l.map hdI).nodup_iff).2 u
 have w:(P.mergeSort leI).Pairwise (λb d=>leI b d=true):=List.pairwise_mergeSort (λb d c=>leI_trans b d c) (λb d=>leI_total b d) P
 have r:Asc ((P.mergeSort leI).map hdI):=by
  rw[Asc,EA]
  rw[List.Nodup,EA]at m
  refine(List.Pairwise.and w m).imp_of_mem λ{S T} a j ⟨b,d⟩=>?_
  obtain⟨_,_,y,g⟩:=e S a
  obtain⟨_,_,t,i⟩:=e T j
  rw[g,i]at b
  exact AC b d
 have s:(P.mergeSort leI)=((P.mergeSort leI).map hdI).map (partG N M):=by
  rw[List.map_map]
  conv=>lhs;rw[← List.map_id (P.mergeSort leI)]
  exact List.map_congr_left λS a=>(e S a).1
 rw[s]
 unfold loopsN
 congr 1
 refine nM r ((po _ _).filter _) λz=>?_
 rw[Da,DQ,cK,decide_eq_true_eq]
 constructor
 .rintro⟨S,a,rfl⟩
  exact⟨nO (e S a).2.1.1,(e S a).2.1⟩
 .rintro⟨_,hl⟩
  exact⟨partG N M z,l.mem_iff.2 (h2 z hl.1),AB hl⟩
end
end
end Go.Proofs.YtleekpaohfpooaaGreat
