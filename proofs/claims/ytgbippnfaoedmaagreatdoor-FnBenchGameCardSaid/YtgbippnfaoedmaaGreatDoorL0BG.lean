/- Plain laws: two loops side by side, bits, Boolean chains. -/
import Derived.Test.YtgbippnfaoedmaaGreatDoorLwBG
import Derived.Test.YtgbippnfaoedmaaGreatDoorLawBG
set_option linter.unusedVariables false
set_option linter.unusedSimpArgs false
open Bool renaming and_eq_true → rx, eq_iff_iff → zE, not_false → zF, not_true → zG, or_eq_true → zH, true_and → zI
open Classical renaming byContradiction → zJ
open Int renaming ofNat → zK
open Go.IntKind renaming bits → zA, i64 → zB, wrap → zr
open List renaming all_eq_true → zL, filter_append → zM, filter_congr → zN, filter_cons → zO, getElem?_eq_getElem → nx, getElem?_eq_some_iff → yo, getElem?_replicate → zP, length_append → yq, length_cons → yr, length_eq_zero_iff → zQ, length_filter_le → zR, length_nil → zS, length_take → y8, mem_append → yu, mem_append_left → zT, mem_cons → yv, mem_cons_self → zU, mem_filter → zV, mem_iff_getElem? → zW, mem_of_getElem? → ze, mem_range → zX, mem_singleton → yw, mem_zipIdx_iff_getElem? → zY, nodup_append → zZ, nodup_cons → z6, pairwise_cons → z7, pairwise_iff_getElem → z8, replicate → zf, take_add_one → Aa, take_append_of_le_length → Ab, take_length → Ac, take_of_length_le → zi, take_sublist → Ad
open Nat renaming le_trans → Ae
open Option renaming bind → zm, bind_some → Af
open Option.some renaming inj → zt
namespace Go.Proofs.YtgbippnfaoedmaaGreatDoor
open Go Go.Wk Go.Proofs
theorem orE (b c:Bool):(bif b then some true else some c)=some (b||c):=by cases b <;> rfl
theorem andE (b c:Bool):(bif b then some c else some false)=some (b&&c):=by cases b <;> rfl
theorem iteE {a:Type}(b:Bool) (x y:a):(bif b then some x else some y)=some (bif b then x else y):=by cases b <;> rfl
theorem qX {n o σ e:Type}{f:Int->σ->Option (n⊕(σ⊕σ))}{g:Int->e->Option (o⊕(e⊕e))}(R:Nat->σ->e->Prop) (O:n->o->Prop) (B:σ->e->Prop) (N:Nat)
 (m:∀(j:Nat) s t,j<N->R j s t->∃c p,f j s=some c/\g j t=some p/\(match c,p with
  |.inl i,.inl l=>O i l
  |.inr (.inl a),.inr (.inl b)=>B a b
  |.inr (.inr a),.inr (.inr b)=>R (j+1) a b
  |_,_=>False)):
 ∀(k j:Nat) (s:σ) (t:e),j+k=N->R j s t->∃c p,cntM f k j s=some c/\cntM g k j t=some p/\(match c,p with
  |.inl i,.inl l=>O i l
  |.inr a,.inr b=>R N a b\/B a b
  |_,_=>False)
 |0,j,s,t,hj,h=>⟨.inr s,.inr t,rfl,rfl,.inl (by rw[← hj];exact h)⟩
 |k+1,j,s,t,hj,h=>by
  obtain⟨c,p,v,hp,d⟩:=m j s t (by omega) h
  show ∃c p,zm (f j s) _=some c/\zm (g j t) _=some p/\_
  rw[v,hp]
  match c,p,d with
  |.inl i,.inl l,d=>exact⟨.inl i,.inl l,rfl,rfl,d⟩
  |.inr (.inl a),.inr (.inl b),d=>exact⟨.inr a,.inr b,rfl,rfl,.inr d⟩
  |.inr (.inr a),.inr (.inr b),d=>
   obtain⟨w,x,q,r,u⟩:=qX R O B N m k (j+1) a b (by omega) d
   exact⟨w,x,q,r,u⟩
theorem vK {v w σ c:Type}{f:Int->σ->Option (v⊕(σ⊕σ))}{g:Int->c->Option (w⊕(c⊕c))}(R:Nat->σ->c->Prop) (N:Nat){s:σ}{t:c}(e:R 0 s t)
 (u:∀(j:Nat) s t,j<N->R j s t->∃a b,f j s=some (.inr (.inr a))/\g j t=some (.inr (.inr b))/\R (j+1) a b):
 ∃a b,cntM f N 0 s=some (.inr a)/\cntM g N 0 t=some (.inr b)/\R N a b:=by
 obtain⟨r,p,i,k,d⟩:=qX (f:=f) (g:=g) R (λ_ _=>False) (λ_ _=>False) N (λj s t o q=>by
  obtain⟨a,b,l,m,n⟩:=u j s t o q
  exact⟨_,_,l,m,n⟩) N 0 s t (by omega) e
 match r,p,d with
 |.inr a,.inr b,d=>exact⟨a,b,i,k,d.resolve_right id⟩
theorem jp {d c:Type}{f:Int->Unit->Option (d⊕(Unit⊕Unit))}{r:d}(g:Nat->c->Bool){xs:List c}{n:Nat}(e:n=xs.length) (h:∀(i:Nat) x,xs[i]? =some x->f (i:Int) ()=some (if g i x then .inr (.inr ()) else .inl r)):
 cntM f n 0 ()=some (if xs.zipIdx.all (λp=>g p.2 p.1) then .inr () else .inl r):=by
 subst e
 have:=jo (f:=f) (r:=r) (λp:c×Nat=>g p.2 p.1) (xs:=xs.zipIdx) (n:=xs.length) (by simp) (λi x a=>by
  rw[List.getElem?_zipIdx]at a
  cases b:xs[i]? with
  |none=>rw[b]at a;cases a
  |some j=>
   rw[b]at a
   simp at a
   subst a
   exact h i j b)
 exact this
theorem bI {g σ:Type}{f:σ->Option (g⊕(σ⊕σ))}(I:Nat->σ->Prop) (R:g->Prop) (B:σ->Prop) (N:Nat)
 (e:∀(j:Nat) s,I j s->∃a,f s=some a/\(match a with
  |.inl d=>R d
  |.inr (.inl b)=>B b
  |.inr (.inr b)=>j<N/\I (j+1) b)):
 ∀(k j:Nat) (s:σ),N<k+j->I j s->(0<k)->∃a,bn f k s=some a/\(match a with
  |.inl d=>R d
  |.inr b=>B b)
 |0,_,_,_,_,h=>absurd h (Nat.lt_irrefl 0)
 |k+1,j,s,hk,h,_=>by
  obtain⟨a,m,c⟩:=e j s h
  show ∃a,zm (f s) _=some a/\_
  rw[m]
  match a,c with
  |.inl d,c=>exact⟨.inl d,rfl,c⟩
  |.inr (.inl b),c=>exact⟨.inr b,rfl,c⟩
  |.inr (.inr b),c=>
   obtain⟨n,i,l⟩:=bI I R B N e k (j+1) b (by omega) c.2 (by omega)
   exact⟨n,i,l⟩
theorem lu {x:Int}(a:0<=x) (b:x<9223372036854775808):(BitVec.ofInt (zA zB) x).toNat=x.toNat:=by
 show(BitVec.ofInt 64 x).toNat=x.toNat
 rw[BitVec.toNat_ofInt]
 congr 1
 omega
theorem bor {x y:Int}(a:0<=x) (b:x<9223372036854775808) (c:0<=y) (d:y<9223372036854775808):
 zr .i64 ((BitVec.ofInt (zA zB) x ||| BitVec.ofInt (zA zB) y).toNat:Int)=((x.toNat ||| y.toNat:Nat):Int):=by
 rw[BitVec.toNat_or,lu a b,lu c d]
 have:(x.toNat ||| y.toNat)<2 ^ 63:=Nat.or_lt_two_pow (by omega) (by omega)
 exact wr' (by omega) (by omega)
def b2i (b:Bool):Int:=if b then 1 else 0
theorem nV (b:Bool):0<=b2i b/\b2i b<=1:=by cases b <;> decide
theorem vA {x y:Int}(h:0<=x):Int.tdiv x y=x / y:=Int.tdiv_eq_ediv_of_nonneg h
theorem uB {x y:Int}(h:0<=y):Int.fdiv x y=x / y:=Int.fdiv_eq_ediv_of_nonneg x h
theorem xy {j:Nat}(h:j<=40):1<=(2:Int) ^ j/\(2:Int) ^ j<=1099511627776:=by
 have a:2 ^ j<=2 ^ 40:=Nat.pow_le_pow_right (by omega) h
 have b:1<=2 ^ j:=Nat.one_le_two_pow
 have c:((2 ^ j:Nat):Int)=(2:Int) ^ j:=by simp
 omega
theorem wF {x:Int}{j:Nat}(h:j<=40) (a:0<=x) (b:x<=1000000):nn (j:Int)=some ()/\zr .i64 (x * 2 ^ (min (Int.toNat (j:Int)) (zA zB)))=x * 2 ^ j:=by
 have hp:=xy h
 refine⟨by unfold nn;rw[if_neg (by omega)],?_⟩
 have:min (Int.toNat (j:Int)) (zA zB)=j:=by show min _ 64=j;omega
 rw[this]
 have c:x * 2 ^ j<=1000000 * 1099511627776:=Int.mul_le_mul b hp.2 (by omega) (by omega)
 have d:0<=x * 2 ^ j:=Int.mul_nonneg a (by omega)
 exact wr' (by omega) (by omega)
theorem bA {z:Int}(h:0<=z):∃n:Nat,z=n:=⟨z.toNat,by omega⟩
theorem appL {c:Type}{b:Nat}{xs ys:List c}(h:xs.length+ys.length<=100000000000) (a:Nat.ble b 1024=true):appS b xs ys=some (xs++ys):=by
 have a:=Nat.ble_eq.mp a
 have:(xs.length+ys.length) * b<=100000000000 * 1024:=Nat.mul_le_mul h a
 unfold appS
 rw[if_pos (by omega)]
theorem app1 {a:Type}{b:Nat}{xs:List a}{x:a}(h:xs.length<=10000000000) (c:Nat.ble b 1024=true):appS b xs [x]=some (xs++[x]):=appL (by simp only[yr,zS];omega) c
theorem so {c:Type}{xs:List c}{z:Int}(a:0<=z) (d:z<xs.length):∃x,idx xs z=some x/\x∈xs:=by
 have b:z.toNat<xs.length:=by omega
 exact⟨xs[z.toNat],by rw[dE a];simp[b],by simp⟩
def inR (n x:Int):Bool:=decide (0<=x)&&decide (x<n)
theorem kM {n x:Int}:inR n x=true↔0<=x/\x<n:=by unfold inR;simp
theorem vU (n x:Int):(decide (0<=x)&&decide (x<=n-1))=inR n x:=by
 unfold inR
 congr 1
 exact decide_eq_decide.2 (by omega)
theorem qf (n x:Int):(decide (x<0)||decide (n<=x))= !(inR n x):=by
 unfold inR
 by_cases a:x<0 <;> by_cases b:n<=x <;> simp[a,b] <;> omega
theorem in2 (o:Int):(decide (0<=o)&&decide (o<=1))=inR 2 o:=by
 unfold inR;congr 1;exact decide_eq_decide.2 (by omega)
theorem in41 (o:Int):(decide (0<=o)&&decide (o<=40))=inR 41 o:=by
 unfold inR;congr 1;exact decide_eq_decide.2 (by omega)
theorem sq (a b:Int):decide (a<b)= !decide (b<=a):=by rw[← decide_not];exact decide_eq_decide.2 (by omega)
theorem iz (a b c:Int):jn a b c=some (decide (b<=a)&&decide (a<=c)):=by
 unfold jn
 by_cases h:b<=a <;> simp[h]
theorem cF:∀(n:Nat) (xs:VI),xs.Nodup->(∀x∈xs,0<=x/\x<n)->xs.length<=n
 |0,[],_,_=>by simp
 |0,x::xs,_,h=>by have:=h x (zU ..);omega
 |n+1,xs,hn,h=>by
  by_cases b:(n:Int)∈xs
  .have d:=List.length_erase_of_mem b
   have e:=cF n (xs.erase (n:Int)) (hn.erase _) (λx a=>by
    rw[hn.mem_erase_iff]at a
    have:=h x a.2
    have:=a.1
    omega)
   omega
  .have:=cF n xs hn (λx a=>by
    have f:=h x a
    have:x≠n:=λc=>b (c ▸ a)
    omega)
   omega
def stepUp (n:Int) (xs:VI) (i:Nat) (x:Int):Bool:=inR n x&&(!decide (0<i)||(match xs[i-1]? with | some a=>decide (a<x) | none=>false))
def ed (n:Int) (xs:VI):Bool:=xs.zipIdx.all (λp=>stepUp n xs p.2 p.1)
theorem j4 {n:Int}{xs:VI}(h:ed n xs=true):(∀(i:Nat) x,xs[i]? =some x->0<=x/\x<n)/\∀(i:Nat) x a,xs[i]? =some x->xs[i+1]? =some a->x<a:=by
 unfold ed at h
 rw[zL]at h
 refine⟨λi x b=>?_,λi x a b d=>?_⟩
 .have:=h (x,i) (zY.2 b)
  unfold stepUp at this
  rw[rx]at this
  exact kM.1 this.1
 .have:=h (a,i+1) (zY.2 d)
  unfold stepUp at this
  simp only[Nat.add_sub_cancel,b]at this
  have c:=((rx _ _).mp this).2
  simp at c
  exact c
theorem sa {n:Int}{xs:VI}(h:ed n xs=true):∀(i:Nat) x,xs[i]? =some x->(i:Int)<=x
 |0,x,hx=>by have:=((j4 h).1 0 x hx).1;omega
 |i+1,x,hx=>by
  have b:i<xs.length:=by have:=(yo.1 hx).1;omega
  have a:xs[i]? =some xs[i]:=by simp[b]
  have:=sa h i _ a
  have:=(j4 h).2 i _ _ a hx
  omega
theorem uk {n:Int}{xs:VI}(h:ed n xs=true) (b:0<=n):(xs.length:Int)<=n:=by
 by_cases c:xs.length=0
 .omega
 .have a:xs[xs.length-1]? =some (xs[xs.length-1]'(by omega)):=nx (by omega)
  have:=sa h _ _ a
  have:=((j4 h).1 _ _ a).2
  omega
theorem rH {xs:VI}{i:Nat}(hi:i<xs.length) (h:0<i):∃a,idx xs (zr .i64 ((i:Int)-1))=some a/\xs[i-1]? =some a\/1000000000<=i:=by
 by_cases b:1000000000<=i
 .exact⟨0,.inr b⟩
 .refine⟨xs[i-1]'(by omega),.inl ⟨?_,nx (by omega)⟩⟩
  rw[wr' (by omega) (by omega),show((i:Int)-1)=((i-1:Nat):Int) from by omega,aS]
  exact nx (by omega)
theorem qE {xs:VI}{n:Int}(l:0<=n) (m:n<=1000000000) (o:xs.length<=1000000000):jG xs n=some (ed n xs):=by
 unfold jG
 rw[jp (f:=fW xs n) (r:=false) (stepUp n xs) (xs:=xs) rfl (λb x d=>by
  have j:=(yo.1 d).1
  unfold fW stepUp
  rw[aS,d]
  simp only[Af,wr' (z:=n-1) (by omega) (by omega),iz,vU]
  cases inR n x with
  |false=>rfl
  |true=>
   by_cases a:0<b
   .obtain⟨c,⟨e,g⟩|k⟩:=rH j a
    .have i:decide (x<=c)= !decide (c<x):=by rw[← decide_not];exact decide_eq_decide.2 (by omega)
     simp only[e,g,show(0:Int)<(b:Int) from by omega,a,decide_true,zG,cond_false,cond_true,Af,i,zI,Bool.false_or]
     cases decide (c<x) <;> rfl
    .omega
   .have:¬(0:Int)<(b:Int):=by omega
    simp[a,this])]
 unfold ed
 cases List.all xs.zipIdx (λp=>stepUp n xs p.2 p.1) <;> rfl
theorem oJ {xs:VI}{n:Int}(a:0<=n) (b:n<=1000000000) (c:xs.length<=1000000000):kW xs n=some (ed n xs):=by
 unfold kW
 rw[qE a b c]
 by_cases h:(xs.length:Int)<=n
 .simp[h]
 .have:ed n xs=false:=by
   cases d:ed n xs with
   |false=>rfl
   |true=>exact absurd (uk d a) h
  simp[h,this]
theorem sv {xs:VI}{n:Int}(l:xs.length<=1000000000):kK xs n=some (ed n xs):=by
 unfold kK
 rw[jp (f:=iH xs n) (r:=false) (stepUp n xs) (xs:=xs) rfl (λb x d=>by
  have j:=(yo.1 d).1
  unfold iH stepUp
  rw[aS,d]
  simp only[Af,orE,qf]
  cases inR n x with
  |false=>rfl
  |true=>
   by_cases a:0<b
   .obtain⟨c,⟨e,g⟩|k⟩:=rH j a
    .have i:decide (x<=c)= !decide (c<x):=by rw[← decide_not];exact decide_eq_decide.2 (by omega)
     simp only[e,g,show(0:Int)<(b:Int) from by omega,a,decide_true,zG,cond_false,cond_true,Af,i,zI,Bool.false_or]
     cases decide (c<x) <;> rfl
    .omega
   .have:¬(0:Int)<(b:Int):=by omega
    simp[a,this])]
 unfold ed
 cases List.all xs.zipIdx (λp=>stepUp n xs p.2 p.1) <;> rfl
def vertOk (a:Arena) (i:Nat) (row:VI):Bool:=(match a.Owner[i]? with | some b=>inR 2 b | none=>false)&&decide ((1:Int)<=row.length)&&decide ((row.length:Int)<=16)&&ed (a.Owner.length:Int) row
def eI (a:Arena):Bool:=decide (1<=(a.Owner.length:Int))&&decide ((a.Owner.length:Int)<=256)&&((a.Next.length:Int)==(a.Owner.length:Int))&&a.Next.zipIdx.all (λp=>vertOk a p.2 p.1)
def bC (g:Parity):Bool:=eI g.Arena&&((g.Prio.length:Int)==(g.Arena.Owner.length:Int))&&g.Prio.all (inR 41)
theorem qA (a:Arena):jF a=some (eI a):=by
 unfold jF eI
 rw[iz,Af]
 cases i:(decide (1<=(a.Owner.length:Int))&&decide ((a.Owner.length:Int)<=256)) with
 |false=>rfl
 |true=>
  simp only[rx,decide_eq_true_eq]at i
  simp only[zG,cond_false,Af,zI,bne]
  cases j:((a.Next.length:Int)==(a.Owner.length:Int)) with
  |false=>rfl
  |true=>
   have k:a.Owner.length=a.Next.length:=by have:=beq_iff_eq.1 j;omega
   rw[jp (f:=fU a) (r:=false) (vertOk a) (xs:=a.Next) k (λg row e=>by
    have n:=(yo.1 e).1
    obtain⟨b,d⟩:∃b,a.Owner[g]? =some b:=⟨_,nx (by omega)⟩
    have l:vertOk a g row=(inR 2 b&&decide ((1:Int)<=row.length)&&decide ((row.length:Int)<=16)&&ed (a.Owner.length:Int) row):=by unfold vertOk;rw[d]
    rw[l]
    unfold fU
    rw[aS,aS,d,e]
    simp only[Af,iz,in2]
    cases inR 2 b with
    |false=>rfl
    |true=>
     simp only[zG,cond_false,Af,sq,zI]
     cases m:decide ((1:Int)<=row.length) with
     |false=>rfl
     |true=>
      simp only[zG,cond_false,Af,zI]
      cases c:decide ((row.length:Int)<=16) with
      |false=>rfl
      |true=>
       have c:=of_decide_eq_true c
       rw[oJ (by omega) (by omega) (by omega)]
       simp only[zG,cond_false,Af,zI]
       cases ed (a.Owner.length:Int) row <;> rfl)]
   simp only[zG,cond_false,Af,zI]
   cases List.all a.Next.zipIdx (λp=>vertOk a p.2 p.1) <;> rfl
theorem lU (a:Arena):iw a=some (eI a):=by
 unfold iw eI
 simp only[orE,Af,sq,bne]
 rw[show(!decide (1<=(a.Owner.length:Int)) || !decide ((a.Owner.length:Int)<=256) || !((a.Next.length:Int)==(a.Owner.length:Int)))= !(decide (1<=(a.Owner.length:Int))&&decide ((a.Owner.length:Int)<=256)&&((a.Next.length:Int)==(a.Owner.length:Int))) from by simp only[Bool.not_and]]
 cases i:(decide (1<=(a.Owner.length:Int))&&decide ((a.Owner.length:Int)<=256)&&((a.Next.length:Int)==(a.Owner.length:Int))) with
 |false=>rfl
 |true=>
  simp only[rx,decide_eq_true_eq,beq_iff_eq]at i
  simp only[zG,cond_false,Af,zI]
  rw[jp (f:=ff a) (r:=false) (vertOk a) (xs:=a.Next) rfl (λg row e=>by
   have m:=(yo.1 e).1
   obtain⟨b,d⟩:∃b,a.Owner[g]? =some b:=⟨_,nx (by omega)⟩
   have j:vertOk a g row=(inR 2 b&&decide ((1:Int)<=row.length)&&decide ((row.length:Int)<=16)&&ed (a.Owner.length:Int) row):=by unfold vertOk;rw[d]
   rw[j]
   unfold ff
   rw[aS,aS,d,e]
   simp only[Af]
   have k:(decide (b<0)||decide (1<b))= !(inR 2 b):=by
    rw[← qf];congr 1
   rw[orE,Af,k]
   cases inR 2 b with
   |false=>rfl
   |true=>
    simp only[zG,cond_false,Af,sq,zI]
    cases l:decide ((1:Int)<=row.length) with
    |false=>rfl
    |true=>
     simp only[zG,cond_false,Af,zI]
     cases c:decide ((row.length:Int)<=16) with
     |false=>rfl
     |true=>
      have c:=of_decide_eq_true c
      rw[sv (by omega)]
      simp only[zG,cond_false,Af,zI]
      cases ed (a.Owner.length:Int) row <;> rfl)]
  simp only[zG,cond_false,Af,zI]
  cases List.all a.Next.zipIdx (λp=>vertOk a p.2 p.1) <;> rfl
theorem jk (g:Parity):eP g=some (bC g):=by
 unfold eP bC
 rw[qA,Af,orE,Af,bne,← Bool.not_and]
 cases c:(eI g.Arena&&((g.Prio.length:Int)==(g.Arena.Owner.length:Int))) with
 |false=>rfl
 |true=>
  simp only[zG,cond_false]
  rw[jo (f:=eC g) (r:=false) (inR 41) (xs:=g.Prio) rfl (λd b a=>by
   unfold eC
   rw[aS,a,Af,iz,Af,in41]
   cases inR 41 b <;> rfl)]
  cases g.Prio.all (inR 41) <;> rfl
theorem gv (g:Parity):dI g=some (bC g):=by
 unfold dI bC
 rw[lU,Af,orE,Af,bne,← Bool.not_and]
 cases d:(eI g.Arena&&((g.Prio.length:Int)==(g.Arena.Owner.length:Int))) with
 |false=>rfl
 |true=>
  simp only[zG,cond_false]
  rw[jo (f:=eg g) (r:=false) (inR 41) (xs:=g.Prio) rfl (λe a c=>by
   unfold eg
   rw[aS,c,Af,orE,Af]
   have b:(decide (a<0)||decide (40<a))= !(inR 41 a):=by
    rw[← qf];congr 1
   rw[b]
   cases inR 41 a <;> rfl)]
  cases g.Prio.all (inR 41) <;> rfl
theorem eB {g:Parity}(h:bC g=true):1<=g.Arena.Owner.length/\g.Arena.Owner.length<=256/\g.Arena.Next.length=g.Arena.Owner.length/\g.Prio.length=g.Arena.Owner.length /\
 (∀(i:Nat) row,g.Arena.Next[i]? =some row->1<=row.length/\row.length<=16/\ed (g.Arena.Owner.length:Int) row=true):=by
 simp only[bC,eI,rx,decide_eq_true_eq,beq_iff_eq]at h
 obtain⟨⟨⟨⟨⟨c,d⟩,e⟩,a⟩,f⟩,j⟩:=h
 refine⟨by omega,by omega,by omega,by omega,λi row b=>?_⟩
 rw[zL]at a
 have:=a (row,i) (zY.2 b)
 simp only[vertOk,rx,decide_eq_true_eq]at this
 exact⟨by omega,by omega,this.2⟩
theorem sH {g:Parity}(h:bC g=true):(∀e∈g.Arena.Owner,inR 2 e=true)/\(∀x∈g.Prio,inR 41 x=true):=by
 have j:=eB h
 simp only[bC,eI,rx,decide_eq_true_eq,beq_iff_eq]at h
 obtain⟨⟨⟨⟨⟨k,l⟩,m⟩,b⟩,n⟩,c⟩:=h
 rw[zL]at b c
 refine⟨λe f=>?_,c⟩
 obtain⟨a,d⟩:=zW.1 f
 have o:=(yo.1 d).1
 have i:g.Arena.Next[a]? =some (g.Arena.Next[a]'(by omega)):=nx (by omega)
 have:=b (_,a) (zY.2 i)
 simp only[vertOk,d,rx]at this
 exact this.1.1.1
theorem ua {g:Parity}(k:1<=g.Arena.Owner.length) (l:g.Arena.Owner.length<=256) (m:g.Arena.Next.length=g.Arena.Owner.length) (n:g.Prio.length=g.Arena.Owner.length) (c:∀row∈g.Arena.Next,1<=row.length/\row.length<=16/\ed (g.Arena.Owner.length:Int) row=true) (d:∀j∈g.Arena.Owner,inR 2 j=true) (e:∀x∈g.Prio,inR 41 x=true):bC g=true:=by
 simp only[bC,eI,rx,decide_eq_true_eq,beq_iff_eq]
 refine⟨⟨⟨⟨⟨by omega,by omega⟩,by omega⟩,?_⟩,by omega⟩,by rw[zL];exact e⟩
 rw[zL]
 rintro⟨row,b⟩ a
 have a:=zY.1 a
 dsimp only at a ⊢
 have o:=(yo.1 a).1
 obtain⟨p,q,i⟩:=c row (ze a)
 have f:g.Arena.Owner[b]? =some (g.Arena.Owner[b]'(by omega)):=nx (by omega)
 have:=d _ (List.getElem_mem (show b<g.Arena.Owner.length by omega))
 unfold vertOk
 simp only[f,this,i,Bool.and_true,zI,rx,decide_eq_true_eq]
 exact⟨by omega,by omega⟩
end Go.Proofs.YtgbippnfaoedmaaGreatDoor
namespace Go.Proofs.YtgbippnfaoedmaaGreatDoor.Par
section
open Classical
structure Gm where
 own:Int->Bool
 pri:Int->Int
 E:Int->Int->Prop
variable (G:Gm)
def oddP (d:Int):Bool:=decide (d % 2=1)
def Play (p:Bool) (D:Int->Prop) (σ:Int->Int) (a:Nat->Int):Prop:=∀n,D (a n)/\G.E (a n) (a (n+1))/\(G.own (a n)=p->a (n+1)=σ (a n))
def Wins (p:Bool) (b:Nat->Int):Prop:=∃a,oddP a=p/\(∀N,∃n,N<=n/\G.pri (b n)=a)/\∃N,∀n,N<=n->G.pri (b n)<=a
def Dom (X:Int->Prop) (p:Bool) (D:Int->Prop):Prop:=∃b:Int->Int,(∀a,D a->X a)/\(∀a,D a->G.own a=p->G.E a (b a)/\D (b a))/\(∀a u,D a->¬G.own a=p->G.E a u->X u->D u)/\∀c,Play G p D b c->Wins G p c
def NoDead (X:Int->Prop):Prop:=∀a,X a->∃u,G.E a u/\X u
structure IsAttr (X:Int->Prop) (p:Bool) (S A:Int->Prop):Prop where
 sub:∀v,A v->X v
 base:∀v,X v->S v->A v
 rank:∃r:Int->Nat,∀v,A v->S v\/(G.own v=p/\∃u,G.E v u/\A u/\r u<r v)\/(¬G.own v=p/\∀u,G.E v u->X u->A u/\r u<r v)
 mine:∀v u,X v->¬A v->G.own v=p->G.E v u->X u->¬A u
 yours:∀v,X v->¬A v->¬G.own v=p->∃u,G.E v u/\X u/\¬A u
def Mn (X A:Int->Prop):Int->Prop:=λa=>X a/\¬A a
variable {G}{X:Int->Prop}{p:Bool}{S A D D':Int->Prop}
theorem Wins.tail {a:Nat->Int}(k:Nat) (h:Wins G p (λn=>a (n+k))):Wins G p a:=by
 obtain⟨b,c,d,N,e⟩:=h
 refine⟨b,c,λM=>?_,N+k,λn g=>?_⟩
 .obtain⟨n,g,f⟩:=d M
  exact⟨n+k,by omega,f⟩
 .have:=e (n-k) (by omega)
  dsimp only at this
  rwa [show n-k+k=n from by omega]at this
theorem Wins.not_both {b:Nat->Int}(h:Wins G p b) (k:Wins G (!p) b):False:=by
 obtain⟨i,c,d,N,e⟩:=h
 obtain⟨j,a,f,M,g⟩:=k
 obtain⟨n,o,r⟩:=d M
 obtain⟨l,m,q⟩:=f N
 have:=g n o
 have:=e l m
 have:i=j:=by omega
 subst this
 rw[c]at a
 cases p <;> cases a
theorem Play.tail {σ:Int->Int}{a:Nat->Int}(h:Play G p D σ a) (k:Nat):Play G p D σ (λn=>a (n+k)):=λn=>by
 have:=h (n+k)
 rwa [show n+k+1=n+1+k from by omega]at this
theorem Dom.disj (h:Dom G X p D) (C:Dom G X (!p) D'){v:Int}(E:D v) (F:D' v):False:=by
 obtain⟨q,s,t,u,w⟩:=h
 obtain⟨r,y,z,A,B⟩:=C
 let c:Int->Int:=λv=>if G.own v=p then q v else r v
 let f:Nat->Int:=λn=>Nat.rec v (λ_ x=>c x) n
 have g:∀n,f (n+1)=c (f n):=λn=>rfl
 have k:∀a,D a->D' a->G.E a (c a)/\D (c a)/\D' (c a):=λa l m=>by
  by_cases b:G.own a=p
  .have j:c a=q a:=if_pos b
   obtain⟨i,d⟩:=t a l b
   rw[j]
   exact⟨i,d,A a _ m (by rw[b];cases p <;> simp) i (s _ d)⟩
  .have j:c a=r a:=if_neg b
   obtain⟨i,d⟩:=z a m (by revert b;cases G.own a <;> cases p <;> simp)
   rw[j]
   exact⟨i,u a _ l b i (y _ d),d⟩
 have e:∀n,D (f n)/\D' (f n):=λn=>by
  induction n with
  |zero=>exact⟨E,F⟩
  |succ n o=>
   obtain⟨_,d,H⟩:=k _ o.1 o.2
   rw[g];exact⟨d,H⟩
 refine(w f λn=>⟨(e n).1,by rw[g];exact(k _ (e n).1 (e n).2).1,λb=>by rw[g];exact if_pos b⟩).not_both (B f λn=>⟨(e n).2,by rw[g];exact(k _ (e n).1 (e n).2).1,λb=>by rw[g];exact if_neg (by rw[b];cases p <;> simp)⟩)
theorem Dom.empty:Dom G X p (λ_=>False):=⟨id,λ_ h=>h.elim,λ_ h=>h.elim,λ_ _ h=>h.elim,λa h=>(h 0).1.elim⟩
theorem Dom.congr (h:Dom G X p D) (e:∀a,D a↔D' a):Dom G X p D':=by
 have:D=D':=funext λa=>propext (e a)
 exact this ▸ h
theorem descent {r:Nat->Nat}(h:∀n,r (n+1)<r n):False:=by
 have:∀n,r n+n<=r 0:=λn=>by
  induction n with
  |zero=>omega
  |succ n a=>have:=h n;omega
 have:=this (r 0+1)
 omega
theorem Dom.grow (V:Dom G X p D) (m:IsAttr G X p D A) (W:Dom G (Mn X A) p D'):Dom G X p (λa=>A a\/D' a):=by
 obtain⟨P,R,v,E,S⟩:=V
 obtain⟨Q,w,F,T,U⟩:=W
 obtain⟨j,C⟩:=m.rank
 have z:∀a,D a->A a:=λa k=>m.base a (R a k) k
 let l:Int->Int:=λa=>if D a then P a else if h:∃u,G.E a u/\A u/\j u<j a then h.choose else Q a
 have y:∀a,D a->l a=P a:=λa k=>if_pos k
 have x:∀a,A a->¬D a->G.own a=p->G.E a (l a)/\A (l a)/\j (l a)<j a:=λa k f c=>by
  rcases C a k with h|⟨_,h⟩|⟨h,_⟩
  .exact absurd h f
  .have s:l a=h.choose:=by show(if D a then _ else _)=_;rw[if_neg f,dif_pos h]
   rw[s];exact h.choose_spec
  .exact absurd c h
 have H:∀a,D' a->G.own a=p->l a=Q a:=λa k c=>by
  obtain⟨q,ha⟩:=w a k
  have:¬∃u,G.E a u/\A u/\j u<j a:=λ⟨u,Z,N,_⟩=>m.mine a u q ha c Z (m.sub u N) N
  show(if D a then _ else _)=_
  rw[if_neg (λh=>ha (z a h)),dif_neg this]
 refine⟨l,?_,?_,?_,?_⟩
 .rintro a (h|h)
  .exact m.sub a h
  .exact(w a h).1
 .rintro a (h|h) c
  .by_cases f:D a
   .rw[y a f];exact⟨(v a f c).1,.inl (z _ (v a f c).2)⟩
   .exact⟨(x a h f c).1,.inl (x a h f c).2.1⟩
  .rw[H a h c];exact⟨(F a h c).1,.inr (F a h c).2⟩
 .rintro a u (h|h) c B q
  .by_cases f:D a
   .exact .inl (z u (E a u f c B q))
   .rcases C a h with e|⟨e,_⟩|⟨_,e⟩
    .exact absurd e f
    .exact absurd e c
    .exact .inl (e u B q).1
  .by_cases ha:A u
   .exact .inl ha
   .exact .inr (T a u h c B ⟨q,ha⟩)
 .intro d g
  have L:∀n,X (d n):=λn=>by
   rcases(g n).1 with h|h
   .exact m.sub _ h
   .exact(w _ h).1
  by_cases o:∃n,D (d n)
  .obtain⟨n,Y⟩:=o
   have t:∀b,D (d (b+n)):=λb=>by
    induction b with
    |zero=>rwa [Nat.zero_add]
    |succ b r=>
     have s:b+1+n=b+n+1:=by omega
     by_cases c:G.own (d (b+n))=p
     .have:=(g (b+n)).2.2 c
      rw[y _ r]at this
      rw[s,this]
      exact(v _ r c).2
     .rw[s];exact E _ _ r c (g (b+n)).2.1 (L _)
   refine Wins.tail n (S _ λb=>⟨t b,?_,λc=>?_⟩)
   .have:=(g (b+n)).2.1
    rwa [show b+n+1=b+1+n from by omega]at this
   .have:=(g (b+n)).2.2 c
    rw[y _ (t b),show b+n+1=b+1+n from by omega]at this
    exact this
  .have o:∀n,¬D (d n):=λn h=>o ⟨n,h⟩
   by_cases I:∃n,A (d n)
   .obtain⟨n,Y⟩:=I
    have O:∀i,A (d i)->A (d (i+1))/\j (d (i+1))<j (d i):=λi M=>by
     by_cases c:G.own (d i)=p
     .rw[(g i).2.2 c];exact(x _ M (o i) c).2
     .rcases C _ M with e|⟨e,_⟩|⟨_,e⟩
      .exact absurd e (o i)
      .exact absurd e c
      .exact e _ (g i).2.1 (L _)
    have t:∀b,A (d (b+n)):=λb=>by
     induction b with
     |zero=>rwa [Nat.zero_add]
     |succ b r=>rw[show b+1+n=b+n+1 from by omega];exact(O _ r).1
    exact(descent (r:=λb=>j (d (b+n))) λb=>by
     have:=(O _ (t b)).2
     rwa [show b+n+1=b+1+n from by omega]at this).elim
   .have K:∀n,D' (d n):=λn=>(g n).1.resolve_left λh=>I ⟨n,h⟩
    refine U d λn=>⟨K n,(g n).2.1,λc=>?_⟩
    rw[(g n).2.2 c,H _ (K n) c]
theorem Dom.lift (k:IsAttr G X p S A) (h:Dom G (Mn X A) (!p) D):Dom G X (!p) D:=by
 obtain⟨m,c,g,i,j⟩:=h
 refine⟨m,λa b=>(c a b).1,g,λa u b e d f=>i a u b e d ⟨f,?_⟩,j⟩
 have l:G.own a=p:=by revert e;cases G.own a <;> cases p <;> simp
 exact k.mine a u (c a b).1 (c a b).2 l d f
theorem Dom.top {d:Int}(M:NoDead G X) (t:∀a,X a->G.pri a<=d) (hp:oddP d=p) (o:IsAttr G X p (λa=>G.pri a=d) A) (h:Dom G (Mn X A) p (Mn X A)):Dom G X p X:=by
 obtain⟨H,T,I,U,K⟩:=h
 obtain⟨e,D⟩:=o.rank
 let j:Int->Int:=λa=>if h:∃u,G.E a u/\A u/\e u<e a then h.choose else if A a then(if h:∃u,G.E a u/\X u then h.choose else a) else H a
 have v:∀a,Mn X A a->G.own a=p->j a=H a:=λa i c=>by
  have:¬∃u,G.E a u/\A u/\e u<e a:=λ⟨u,R,E,_⟩=>o.mine a u i.1 i.2 c R (o.sub u E) E
  show(if h:_ then _ else _)=_
  rw[dif_neg this,if_neg i.2]
 have L:∀a,A a->¬G.pri a=d->G.own a=p->A (j a)/\e (j a)<e a:=λa i t c=>by
  rcases D a i with h|⟨_,h⟩|⟨h,_⟩
  .exact absurd h t
  .have k:j a=h.choose:=dif_pos h
   rw[k];exact h.choose_spec.2
  .exact absurd c h
 refine⟨j,λ_ h=>h,λa i c=>?_,λa u _ _ _ P=>P,λf m=>?_⟩
 .by_cases ha:A a
  .by_cases h:∃u,G.E a u/\A u/\e u<e a
   .have k:j a=h.choose:=dif_pos h
    rw[k];exact⟨h.choose_spec.1,o.sub _ h.choose_spec.2.1⟩
   .have r:=M a i
    have k:j a=r.choose:=by
     show(if h:_ then _ else _)=_
     rw[dif_neg h,if_pos ha,dif_pos r]
    rw[k];exact r.choose_spec
  .rw[v a ⟨i,ha⟩ c]
   have:=I a ⟨i,ha⟩ c
   exact⟨this.1,this.2.1⟩
 .have s:∀n,X (f n):=λn=>(m n).1
  by_cases y:∀N,∃n,N<=n/\G.pri (f n)=d
  .exact⟨d,hp,y,0,λn _=>t _ (s n)⟩
  .obtain⟨N,O⟩:=Classical.not_forall.1 y
   have C:∀n,N<=n->¬G.pri (f n)=d:=λn q h=>O ⟨n,q,h⟩
   by_cases w:∃n,N<=n/\A (f n)
   .obtain⟨n,V,q⟩:=w
    have F:∀g,N<=g->A (f g)->A (f (g+1))/\e (f (g+1))<e (f g):=λg B z=>by
     by_cases c:G.own (f g)=p
     .rw[(m g).2.2 c];exact L _ z (C g B) c
     .rcases D _ z with l|⟨l,_⟩|⟨_,l⟩
      .exact absurd l (C g B)
      .exact absurd l c
      .exact l _ (m g).2.1 (s _)
    have S:∀b,A (f (b+n)):=λb=>by
     induction b with
     |zero=>rwa [Nat.zero_add]
     |succ b Q=>rw[show b+1+n=b+n+1 from by omega];exact(F _ (by omega) Q).1
    exact(descent (r:=λb=>e (f (b+n))) λb=>by
     have:=(F _ (by omega) (S b)).2
     rwa [show b+n+1=b+1+n from by omega]at this).elim
   .have x:∀n,N<=n->Mn X A (f n):=λn q=>⟨s n,λh=>w ⟨n,q,h⟩⟩
    refine Wins.tail N (K _ λb=>⟨x _ (by omega),?_,λc=>?_⟩)
    .have:=(m (b+N)).2.1
     rwa [show b+N+1=b+1+N from by omega]at this
    .have:=(m (b+N)).2.2 c
     rw[v _ (x _ (by omega)) c,show b+N+1=b+1+N from by omega]at this
     exact this
theorem NoDead.less (h:NoDead G X) (e:IsAttr G X p S A):NoDead G (Mn X A):=λc ⟨d,ha⟩=>by
 by_cases f:G.own c=p
 .obtain⟨u,a,b⟩:=h c d
  exact⟨u,a,b,e.mine c u d ha f a b⟩
 .obtain⟨u,a,b,g⟩:=e.yours c d ha f
  exact⟨u,a,b,g⟩
structure Sol (G:Gm) (X:Int->Prop) (p:Bool) (W:Int->Prop):Prop where
 sub:∀v,W v->X v
 mine:Dom G X p W
 yours:Dom G X (!p) (Mn X W)
theorem Sol.uniq {W W':Int->Prop}(h:Sol G X p W) (c:Sol G X p W') (v:Int):W v↔W' v:=by
 constructor
 .intro a
  by_cases b:W' v
  .exact b
  .exact(Dom.disj h.mine c.yours a ⟨h.sub v a,b⟩).elim
 .intro a
  by_cases b:W v
  .exact b
  .exact(Dom.disj c.mine h.yours a ⟨c.sub v a,b⟩).elim
theorem Sol.flip {W:Int->Prop}(h:Sol G X p W):Sol G X (!p) (Mn X W):=by
 refine⟨λb a=>a.1,h.yours,?_⟩
 rw[Bool.not_not]
 refine h.mine.congr λb=>⟨λa=>⟨h.sub b a,λd=>d.2 a⟩,λa=>?_⟩
 by_cases c:W b
 .exact c
 .exact absurd ⟨a.1,c⟩ a.2
theorem Sol.congr {W W':Int->Prop}(h:Sol G X p W) (e:∀a,W a↔W' a):Sol G X p W':=by
 have:W=W':=funext λa=>propext (e a)
 exact this ▸ h
end
end Go.Proofs.YtgbippnfaoedmaaGreatDoor.Par
namespace Go.Proofs.YtgbippnfaoedmaaGreatDoor
open Go Go.Wk Go.Proofs
theorem bp {c:Type}{xs ys:List c}{i v:Int}{x:c}(h:setI xs i x=some ys):idx ys v=if v=i then some x else idx xs v:=by
 obtain⟨d,e,rfl,_⟩:=mB h
 unfold idx
 by_cases a:0<=v
 .rw[if_pos a,if_pos a]
  by_cases b:v=i
  .subst b
   rw[if_pos rfl,List.getElem?_set_self (by omega)]
  .rw[if_neg b,List.getElem?_set_ne (by omega)]
 .rw[if_neg a,if_neg a,if_neg (by omega)]
theorem bj {b:Type}{xs:List b}{i:Int}(x:b) (c:0<=i) (d:i<xs.length):∃a,setI xs i x=some a/\a.length=xs.length:=by
 have:setI xs i x=some (xs.set i.toNat x):=by unfold setI;rw[if_pos ⟨c,d⟩]
 exact⟨_,this,(mB this).2.2.2⟩
theorem bg {c:Type}{xs:List c}{i:Int}(a:0<=i) (b:i<xs.length):∃x,idx xs i=some x:=by
 obtain⟨x,h,_⟩:=so a b
 exact⟨x,h⟩
theorem bu {a:Type}{xs:List a}{i:Int}{x:a}(h:idx xs i=some x):0<=i/\i<xs.length:=⟨(ko h).1,(ko h).2.1⟩
def posL (v:Int):VI->Nat
 | []=>0
 |x::xs=>if x=v then 0 else posL v xs+1
theorem rG {v:Int}:∀{Q:VI},v∈Q->Q[posL v Q]? =some v
 |x::xs,h=>by
  unfold posL
  by_cases a:x=v
  .rw[if_pos a,a];rfl
  .rw[if_neg a]
   rcases yv.1 h with h|h
   .exact absurd h.symm a
   .simpa using rG h
theorem tD {v:Int}:∀{Q:VI}{m:Nat},Q[m]? =some v->posL v Q<=m
 |x::xs,0,h=>by
  unfold posL
  simp at h
  rw[if_pos h];omega
 |x::xs,m+1,h=>by
  unfold posL
  split
  .omega
  .have:=tD (Q:=xs) (m:=m) (by simpa using h)
   omega
theorem ub {u:Int}{Q:VI}{k:Nat}(h:u∈Q.take k):posL u Q<k:=by
 obtain⟨b,a⟩:=zW.1 h
 rw[List.getElem?_take]at a
 split at a
 .have:=tD a;omega
 .cases a
def In (B:VB) (v:Int):Prop:=idx B v=some true
section
variable (row:Int->VI) (own:Int->Bool) (pri:Int->Int) (inn:Int->Prop) (p:Bool) (goal:Int->Prop)
def mkG:Par.Gm:=⟨own,pri,λa u=>u∈row a⟩
structure Cert (Q:VI):Prop where
 nd:Q.Nodup
 mem:∀v∈Q,inn v
 why:∀(k:Nat) v,Q[k]? =some v->goal v\/(own v=p/\∃u∈Q.take k,u∈row v)\/(¬own v=p/\∀u∈row v,inn u->u∈Q.take k)
variable {row own pri inn p goal}
theorem Cert.snoc {Q:VI}(h:Cert row own inn p goal Q){v:Int}(g:v∉Q) (hi:inn v) (i:goal v\/(own v=p/\∃u∈Q,u∈row v)\/(¬own v=p/\∀u∈row v,inn u->u∈Q)):Cert row own inn p goal (Q++[v]):=by
 refine⟨?_,?_,?_⟩
 .rw[zZ]
  exact⟨h.nd,by simp,λj ha k d=>by simp at d;subst d;exact λe=>g (e ▸ ha)⟩
 .intro x b
  rcases yu.1 b with b|b
  .exact h.mem x b
  .simp at b;subst b;exact hi
 .intro c x a
  by_cases f:c<Q.length
  .rw[List.getElem?_append_left f]at a
   rw[Ab (by omega)]
   exact h.why c x a
  .have:c=Q.length:=by
    have:=(yo.1 a).1
    simp at this;omega
   subst this
   rw[List.getElem?_append_right (Nat.le_refl _),Nat.sub_self]at a
   simp at a
   subst a
   rw[Ab (Nat.le_refl _),Ac]
   exact i
def Trap (row:Int->VI) (own:Int->Bool) (inn:Int->Prop) (p:Bool) (Q:VI) (d:Int->Int->Prop):Prop:=∀a,inn a->a∉Q->(own a=p->∀b∈row a,inn b->¬d a b)/\(¬own a=p->∃b∈row a,inn b/\¬d a b)
theorem Cert.attr {Q:VI}(h:Cert row own inn p goal Q) (q:∀a,inn a->goal a->a∈Q) (k:Trap row own inn p Q (λ_ i=>i∈Q)):Par.IsAttr (mkG row own pri) inn p goal (λa=>a∈Q):=by
 refine⟨h.mem,q,⟨λa=>posL a Q,λa r=>?_⟩,?_,?_⟩
 .have j:∀u,u∈Q.take (posL a Q)->u∈Q/\posL u Q<posL a Q:=λu d=>⟨List.mem_of_mem_take d,ub d⟩
  rcases h.why _ a (rG r) with g|⟨b,u,d,f⟩|⟨b,g⟩
  .exact .inl g
  .exact .inr (.inl ⟨b,u,f,j u d⟩)
  .exact .inr (.inr ⟨b,λu f c=>j u (g u f c)⟩)
 .intro a u c e b o s
  exact(k a c e).1 b u o s
 .intro a c e b
  obtain⟨i,l,m,n⟩:=(k a c e).2 b
  exact⟨i,l,m,n⟩
end
open Classical in
noncomputable def lf (row:VI) (inn d:Int->Prop):Nat:=(row.filter (λa=>decide (inn a/\¬d a))).length
theorem tz {row:VI}{inn d:Int->Prop}:lf row inn d=0↔∀a∈row,inn a->d a:=by
 classical
 unfold lf
 rw[zQ,List.filter_eq_nil_iff]
 constructor
 .intro h a c f
  by_cases e:d a
  .exact e
  .exact absurd (by simp;exact⟨f,e⟩) (h a c)
 .intro h a c b
  simp at b
  exact b.2 (h a c b.1)
theorem dj {row:VI}{inn d c:Int->Prop}(h:∀a∈row,inn a->(d a↔c a)):lf row inn d=lf row inn c:=by
 classical
 unfold lf
 congr 1
 apply zN
 intro a e
 by_cases b:inn a
 .simp[b,h a e b]
 .simp[b]
theorem uL {row:VI}{inn d:Int->Prop}:lf row inn d<=row.length:=by
 unfold lf;exact zR _ _
theorem qb {inn d:Int->Prop}{u:Int}:∀{row:VI},row.Nodup->u∈row->inn u->¬d u->lf row inn (λb=>d b\/b=u)+1=lf row inn d
 |x::xs,hn,hu,hi,hd=>by
  classical
  have g:=z6.1 hn
  by_cases a:x=u
  .subst a
   have:lf xs inn (λb=>d b\/b=x)=lf xs inn d:=dj λb j _=>⟨λh=>h.resolve_right λa=>g.1 (a ▸ j),.inl⟩
   unfold lf at this ⊢
   rw[zO,if_neg (by simp),zO,if_pos (by simp[hi,hd]),yr,this]
  .have i:u∈xs:=(yv.1 hu).resolve_left λh=>a h.symm
   have f:=qb g.2 i hi hd
   unfold lf at f ⊢
   rw[zO,zO]
   by_cases c:inn x/\¬d x
   .rw[if_pos (by simp[c,a]),if_pos (by simp[c]),yr,yr,← f]
   .rw[if_neg (by simp[a];exact λh=>zJ λe=>c ⟨h,e⟩),if_neg (by simp;exact λh=>zJ λe=>c ⟨h,e⟩),f]
def dn (T:VI) (u:Int) (L:VI) (v y:Int):Prop:=y∈T\/(y=u/\v∈L)
structure Mid (row:Int->VI) (own:Int->Bool) (inn:Int->Prop) (p:Bool) (goal:Int->Prop) (T:VI) (u:Int) (L Q:VI):Prop where
 cert:Cert row own inn p goal Q
 hu:∃R,Q=T++u::R
 trap:Trap row own inn p Q (dn T u L)
section
variable {row:Int->VI}{own:Int->Bool}{inn:Int->Prop}{p:Bool}{goal:Int->Prop}{T:VI}{u:Int}{L Q:VI}
theorem Mid.u_in (h:Mid row own inn p goal T u L Q):u∈Q/\u∉T/\inn u:=by
 obtain⟨R,a⟩:=h.hu
 have b:u∈Q:=by rw[a];simp
 refine⟨b,?_,h.cert.mem u b⟩
 have:=h.cert.nd
 rw[a,zZ]at this
 exact λc=>this.2.2 u c u (by simp) rfl
theorem ef {v w y:Int}(h:w≠v):dn T u (L++[v]) w y↔dn T u L w y:=by
 unfold dn
 rw[yu,yw]
 constructor
 .rintro(a|⟨a,b|b⟩)
  .exact .inl a
  .exact .inr ⟨a,b⟩
  .exact absurd b h
 .rintro(a|⟨a,b⟩)
  .exact .inl a
  .exact .inr ⟨a,.inl b⟩
theorem pU {v y:Int}:dn T u (L++[v]) v y↔y∈T\/y=u:=by
 unfold dn;simp
theorem jq {v y:Int}(h:v∉L):dn T u L v y↔y∈T:=by
 unfold dn;simp[h]
theorem Mid.skip (h:Mid row own inn p goal T u L Q){v:Int}(d:¬inn v\/v∈Q\/u∉row v):Mid row own inn p goal T u (L++[v]) Q:=by
 refine⟨h.cert,h.hu,λe n m=>?_⟩
 obtain⟨q,r⟩:=h.trap e n m
 by_cases g:e=v
 .subst g
  have s:u∉row e:=by
   rcases d with d|d|d
   .exact absurd n d
   .exact absurd d m
   .exact d
  have o:∀a∈row e,(dn T u (L++[e]) e a↔dn T u L e a):=λa f=>by
   have t:a≠u:=λg=>s (g ▸ f)
   unfold dn;simp[t]
  refine⟨λc a f l=>λb=>q c a f l ((o a f).1 b),λc=>?_⟩
  obtain⟨a,i,j,k⟩:=r c
  exact⟨a,i,j,λb=>k ((o a i).1 b)⟩
 .refine⟨λc a f l=>λb=>q c a f l ((ef g).1 b),λc=>?_⟩
  obtain⟨a,i,j,k⟩:=r c
  exact⟨a,i,j,λb=>k ((ef g).1 b)⟩
theorem Mid.stay (h:Mid row own inn p goal T u L Q){v:Int}(c:¬own v=p) (m:lf (row v) inn (λa=>a∈T\/a=u)≠0):Mid row own inn p goal T u (L++[v]) Q:=by
 refine⟨h.cert,h.hu,λg q o=>?_⟩
 obtain⟨r,s⟩:=h.trap g q o
 by_cases d:g=v
 .subst d
  refine⟨λn=>absurd n c,λ_=>?_⟩
  apply zJ
  intro l
  apply m
  rw[tz]
  intro a f e
  apply zJ
  intro b
  exact l ⟨a,f,e,λh=>b (pU.1 h)⟩
 .refine⟨λc a f e=>λb=>r c a f e ((ef d).1 b),λc=>?_⟩
  obtain⟨a,i,j,k⟩:=s c
  exact⟨a,i,j,λb=>k ((ef d).1 b)⟩
theorem Mid.add (h:Mid row own inn p goal T u L Q){v:Int}(hi:inn v) (l:v∉Q) (m:u∈row v) (n:own v=p\/lf (row v) inn (λa=>a∈T\/a=u)=0):Mid row own inn p goal T u (L++[v]) (Q++[v]):=by
 obtain⟨R,f⟩:=h.hu
 have k:∀a,a∈T\/a=u->a∈Q:=λa b=>by
  rw[f]
  rcases b with b|b
  .simp[b]
  .simp[b]
 refine⟨h.cert.snoc l hi ?_,⟨R++[v],by rw[f];simp⟩,λt o d=>?_⟩
 .by_cases c:own v=p
  .exact .inr (.inl ⟨c,u,h.u_in.1,m⟩)
  .exact .inr (.inr ⟨c,λa b q=>k a ((tz.1 (n.resolve_left c)) a b q)⟩)
 .rw[yu,yw,not_or]at d
  obtain⟨r,s⟩:=h.trap t o d.1
  refine⟨λc a b hi=>λe=>r c a b hi ((ef d.2).1 e),λc=>?_⟩
  obtain⟨a,g,i,j⟩:=s c
  exact⟨a,g,i,λe=>j ((ef d.2).1 e)⟩
theorem Mid.first {R:VI}(g:Cert row own inn p goal (T++u::R)) (k:Trap row own inn p (T++u::R) (λ_ a=>a∈T)):Mid row own inn p goal T u [] (T++u::R):=by
 refine⟨g,⟨R,rfl⟩,λq l j=>?_⟩
 obtain⟨n,o⟩:=k q l j
 refine⟨λc a m i b=>n c a m i ((jq (by simp)).1 b),λc=>?_⟩
 obtain⟨a,d,e,f⟩:=o c
 exact⟨a,d,e,λb=>f ((jq (by simp)).1 b)⟩
theorem Mid.last (h:Mid row own inn p goal T u L Q) (j:∀c,inn c->u∈row c->c∈L):Trap row own inn p Q (λ_ b=>b∈T++[u]):=λc g n=>by
 obtain⟨q,r⟩:=h.trap c g n
 have o:∀b∈row c,(b∈T++[u]->dn T u L c b):=λb d a=>by
  rw[yu,yw]at a
  rcases a with a|a
  .exact .inl a
  .exact .inr ⟨a,j c g (a ▸ d)⟩
 refine⟨λf b d m e=>q f b d m (o b d e),λf=>?_⟩
 obtain⟨b,i,k,l⟩:=r f
 exact⟨b,i,k,λe=>l (by
  rcases yu.1 e with a|a
  .exact .inl a
  .rw[yw]at a
   exact .inr ⟨a,j c g (a ▸ i)⟩)⟩
end
structure WfS (x:l7Game) (n:Nat):Prop where
 n256:n<=256
 lo:x.owner.length=n
 lp:x.prio.length=n
 ln:x.next.length=n
 lk:x.pick.length=n
 lv:x.prev.length=n
 ow:∀v o,idx x.owner v=some o->o=0\/o=1
 row:∀v r,idx x.next v=some r->r.length<=16/\r.Nodup/\∀u∈r,0<=u/\u<n
 prev:∀u P,idx x.prev u=some P->P.Nodup/\P.length<=100000/\∀v,v∈P↔∃r,idx x.next v=some r/\u∈r
def okE (k u:Int):Bool:=decide (k<0)||(k==u)
def rowS (x:l7Game) (v:Int):VI:=match idx x.next v,idx x.pick v with
 |some b,some a=>b.filter (okE a)
 |_,_=>[]
def ownL (O:VI) (v:Int):Bool:=match idx O v with
 |some a=>a==1
 |none=>false
def priL (P:VI) (v:Int):Int:=(idx P v).getD 0
theorem qw {x:l7Game}{v k:Int}{r:VI}(b:idx x.next v=some r) (a:idx x.pick v=some k):rowS x v=r.filter (okE k):=by unfold rowS;rw[b,a]
theorem vm {x:l7Game}{v k:Int}(u:Int) (a:idx x.pick v=some k):jH x v u=some (okE k u):=by
 unfold jH okE
 rw[a,Af]
 cases decide (k<0) <;> simp
theorem qk {O:VI}{v o:Int}{p:Bool}(h:idx O v=some o) (a:o=0\/o=1):(o==b2i p)=decide (ownL O v=p):=by
 unfold ownL
 rw[h]
 rcases a with rfl|rfl <;> cases p <;> decide
section
variable {x:l7Game}{n:Nat}(wf:WfS x n){B:VB}(hB:B.length=n)
include wf
theorem WfS.get {v:Int}(c:0<=v) (f:v<n):∃b a,idx x.next v=some b/\idx x.pick v=some a:=by
 have:=wf.ln
 have:=wf.lk
 obtain⟨b,e⟩:=bg (xs:=x.next) c (by omega)
 obtain⟨a,d⟩:=bg (xs:=x.pick) c (by omega)
 exact⟨b,a,e,d⟩
theorem qz (v:Int):(rowS x v).Nodup/\(rowS x v).length<=16/\∀u∈rowS x v,0<=u/\u<n:=by
 unfold rowS
 cases d:idx x.next v with
 |none=>simp
 |some f=>
  cases g:idx x.pick v with
  |none=>simp
  |some i=>
   obtain⟨a,b,c⟩:=wf.row v f d
   exact⟨b.filter _,Ae (zR _ _) a,λu e=>c u (zV.1 e).1⟩
include hB
omit wf in
theorem ka {v:Int}(h:In B v):0<=v/\v<n:=by
 have:=bu h
 rw[hB]at this
 exact this
theorem vl {v:Int}(p:0<=v) (q:v<n):iP x B v=some (lf (rowS x v) (In B) (λ_=>False):Int):=by
 classical
 obtain⟨b,g,i,l⟩:=wf.get p q
 obtain⟨F,G,y⟩:=wf.row v b i
 let c:Int->Bool:=λu=>decide (In B u)&&okE g u
 unfold iP
 obtain⟨w,A,C⟩:=bI (f:=eG x B v) (λa (d:Int×Int)=>d=((((b.take a).filter c).length:Int),(a:Int))/\a<=b.length) (λ_=>False) (λd=>d.1=((b.filter c).length:Int)) b.length (λa d ⟨t,D⟩=>by
  subst t
  unfold eG
  rw[i,Af]
  dsimp only
  by_cases m:(a:Int)<(b.length:Int)
  .have e:b[a]? =some b[a]:=nx (by omega)
   generalize b[a]=u at e
   obtain⟨z,H⟩:=y u (ze e)
   obtain⟨j,k⟩:=bg (xs:=B) z (by omega)
   have E:((b.take a).filter c).length<=a:=Ae (zR _ _) (by rw[y8];omega)
   simp only[m,decide_true,cond_true,Af,aS,e,k,vm u l,andE]
   have s:(j&&okE g u)=c u:=by
    show _=(decide (In B u)&&okE g u)
    congr 1
    unfold In;rw[k];cases j <;> simp
   rw[s]
   have o:(b.take (a+1)).filter c=(b.take a).filter c++(if c u then[u] else[]):=by
    rw[Aa,e,zM];congr 1
    cases h:c u <;> simp[h]
   rw[wr' (by omega) (by omega),wr' (by omega) (by omega)]
   cases h:c u with
   |true=>exact⟨_,rfl,by omega,by rw[o,h];simp,by omega⟩
   |false=>exact⟨_,rfl,by omega,by rw[o,h];simp,by omega⟩
  .simp only[m,decide_false,cond_false]
   refine⟨_,rfl,?_⟩
   dsimp only
   rw[zi (by omega)]) (2 ^ 64) 0 (0,0) (by omega) ⟨by simp,by omega⟩ (by omega)
 match w,C with
 |.inr d,r=>
  rw[A,Af,aU,r,qw i l]
  unfold lf
  rw[List.filter_filter]
  congr 3
  apply zN
  intro u _
  show(decide (In B u)&&okE g u)=_
  simp
theorem r8 {goal:Int->Prop}{p:Bool}{T L Q:VI}{u v:Int}{out:VB}{left:VI}(l:Mid (rowS x) (ownL x.owner) (In B) p goal T u L Q) (ab:v∉L)
 {P:VI} {j:Nat} (E:idx x.prev u=some P) (A:P[j]? =some v) (aj:Q.length<=100000)
 (q:out.length=n/\∀v:Int,0<=v->v<n->idx out v=some (decide (v∈Q))) (o:left.length=n/\∀v,In B v->v∉Q->idx left v=some (lf (rowS x v) (In B) (dn T u L v):Int)):
 ∃Q' s g,cu x B (b2i p) u (Q,(j:Int),out,left)=some (.inr (.inr (Q',((j+1:Nat):Int),s,g)))/\Mid (rowS x) (ownL x.owner) (In B) p goal T u (L++[v]) Q' /\
  (s.length=n/\∀v:Int,0<=v->v<n->idx s v=some (decide (v∈Q')))/\(g.length=n/\∀b,In B b->b∉Q'->idx g b=some (lf (rowS x b) (In B) (dn T u (L++[v]) b):Int))/\(∀v∈Q,v∈Q'):=by
 have am:=wf.n256
 obtain⟨ap,aq,af⟩:=wf.prev u P E
 obtain⟨ar,N,aa⟩:=(af v).1 (ze A)
 obtain⟨k,t⟩:=bu N
 rw[wf.ln]at t
 obtain⟨S,K⟩:=bg (xs:=x.pick) k (by rw[wf.lk];exact t)
 obtain⟨U,y⟩:=bg (xs:=B) k (by omega)
 obtain⟨b,d⟩:=bg (xs:=x.owner) k (by rw[wf.lo];exact t)
 have X:(j:Int)<(P.length:Int):=by have:=(yo.1 A).1;omega
 have ac:zr .i64 ((j:Int)+1)=((j+1:Nat):Int):=by rw[wr' (by omega) (by omega)];omega
 unfold cu
 rw[E,Af]
 dsimp only
 simp only[X,decide_true,cond_true,Af,aS,A,y,q.2 v k t,vm u K,orE,ac]
 have H:u∈rowS x v↔okE S u=true:=by rw[qw N K,zV];exact⟨λh=>h.2,λh=>⟨aa,h⟩⟩
 have G:∀b,b≠v->lf (rowS x b) (In B) (dn T u (L++[v]) b)=lf (rowS x b) (In B) (dn T u L b):=λb d=>dj λa _ _=>ef d
 by_cases m:((!U||decide (v∈Q)) || !okE S u)=true
 .rw[m,cond_true]
  have F:¬In B v\/v∈Q\/u∉rowS x v:=by
   simp only[zH,Bool.not_eq_true',decide_eq_true_eq]at m
   rcases m with (h|h)|h
   .left;unfold In;rw[y,h];simp
   .exact .inr (.inl h)
   .right;right;rw[H,h];simp
  refine⟨Q,out,left,rfl,l.skip F,q,⟨o.1,λa R f=>?_⟩,λ_ h=>h⟩
  rw[o.2 a R f]
  by_cases c:a=v
  .subst c
   have r:u∉rowS x a:=by
    rcases F with h|h|h
    .exact absurd R h
    .exact absurd h f
    .exact h
   congr 2
   exact dj λai ae _=>by
    have:ai≠u:=λc=>r (c ▸ ae)
    unfold dn;simp[this]
  .rw[G a c]
 .simp only[Bool.not_eq_true,Bool.or_eq_false_iff,Bool.not_eq_false',decide_eq_false_iff_not]at m
  obtain⟨⟨V,w⟩,D⟩:=m
  subst V
  have I:In B v:=y
  have r:u∈rowS x v:=H.2 D
  have Y:=o.2 v I w
  have ak:lf (rowS x v) (In B) (λa=>a∈T\/a=u)+1=lf (rowS x v) (In B) (dn T u L v):=by
   rw[qb (qz wf v).1 r l.u_in.2.2 l.u_in.2.1]
   exact dj λa _ _=>(jq ab).symm
  have al:lf (rowS x v) (In B) (dn T u L v)<=16:=Ae uL (qz wf v).2.1
  obtain⟨g,C,an⟩:=bj (xs:=left) (i:=v) (lf (rowS x v) (In B) (λa=>a∈T\/a=u):Int) k (by omega)
  have ad:zr .i64 ((lf (rowS x v) (In B) (dn T u L v):Int)-1)=(lf (rowS x v) (In B) (λa=>a∈T\/a=u):Int):=by rw[wr' (by omega) (by omega)];omega
  have Z:idx g v=some (lf (rowS x v) (In B) (λa=>a∈T\/a=u):Int):=by rw[bp C,if_pos rfl]
  have M:∀b,In B b->b∉Q->idx g b=some (lf (rowS x b) (In B) (dn T u (L++[v]) b):Int):=λb d f=>by
   rw[bp C]
   by_cases c:b=v
   .subst c
    rw[if_pos rfl]
    congr 2
    exact dj λa _ _=>pU.symm
   .rw[if_neg c,o.2 b d f,G b c]
  have W:((lf (rowS x v) (In B) (λa=>a∈T\/a=u):Int)==0)=decide (lf (rowS x v) (In B) (λa=>a∈T\/a=u)=0):=by
   rw[zE];simp
  simp only[w,D,decide_false,zG,Bool.or_false,cond_false,Y,Af,ad,C,d,qk d (wf.ow v b d),Z,W,orE]
  by_cases e:ownL x.owner v=p\/lf (rowS x v) (In B) (λa=>a∈T\/a=u)=0
  .have z:(decide (ownL x.owner v=p)||decide (lf (rowS x v) (In B) (λa=>a∈T\/a=u)=0))=true:=by simpa using e
   obtain⟨s,O,ao⟩:=bj (xs:=out) (i:=v) true k (by omega)
   simp only[z,cond_true,O,Af,app1 (show Q.length<=10000000000 by omega) (show Nat.ble 8 1024=true from rfl)]
   refine⟨_,_,_,rfl,l.add I w r e,⟨by omega,λa ag ah=>?_⟩,⟨by omega,λb d f=>M b d λh=>f (zT _ h)⟩,λ_ h=>zT _ h⟩
   rw[bp O]
   by_cases c:a=v
   .subst c;simp
   .rw[if_neg c,q.2 a ag ah];simp[c]
  .have z:(decide (ownL x.owner v=p)||decide (lf (rowS x v) (In B) (λa=>a∈T\/a=u)=0))=false:=by simpa using e
   rw[not_or]at e
   simp only[z,cond_false,Af]
   exact⟨_,_,_,rfl,l.stay e.1 e.2,q,⟨by omega,M⟩,λ_ h=>h⟩
end
def gS (x:l7Game):Par.Gm:=mkG (rowS x) (ownL x.owner) (priL x.prio)
theorem bi {a:Type}{xs:List a}{j:Nat}{y:a}(h:xs[j]? =some y):xs.take (j+1)=xs.take j++[y]:=by rw[Aa,h];rfl
theorem oA {xs:VI}{j:Nat}{y:Int}(c:xs.Nodup) (h:xs[j]? =some y):y∉xs.take j:=by
 have a:=c.sublist (Ad (j+1) xs)
 rw[bi h,zZ]at a
 exact λb=>a.2.2 y b y (by simp) rfl
section
variable {x:l7Game}{n:Nat}(wf:WfS x n){B:VB}(hB:B.length=n)
include wf hB
omit wf in
theorem qU {p:Bool}{goal:Int->Prop}{Q:VI}(h:Cert (rowS x) (ownL x.owner) (In B) p goal Q):Q.length<=n:=cF n Q h.nd λb a=>ka hB (h.mem b a)
theorem sW {goal:VB}(ae:goal.length=n){p:Bool}(T:Par.NoDead (gS x) (In B)):∃Q t left,cntM (cU x B goal) B.length 0 ([],zf n false,zf n 0)=some (.inr (Q,t,left)) /\
 Cert (rowS x) (ownL x.owner) (In B) p (In goal) Q/\(∀a,In B a->In goal a->a∈Q)/\Trap (rowS x) (ownL x.owner) (In B) p Q (λ_ v=>v∈([]:VI)) /\
 (t.length=n/\∀a:Int,0<=a->a<n->idx t a=some (decide (a∈Q)))/\(left.length=n/\∀b,In B b->b∉Q->idx left b=some (lf (rowS x b) (In B) (λv=>v∈([]:VI)):Int)):=by
 have ai:=wf.n256
 obtain⟨g,y,j⟩:=ba (f:=cU x B goal) (λc (g:VI×VB×VI)=>g.1.Nodup/\(∀a,a∈g.1↔a<(c:Int)/\In B a/\In goal a) /\
  (g.2.1.length=n/\∀a:Int,0<=a->a<n->idx g.2.1 a=some (decide (a∈g.1)))/\(g.2.2.length=n/\∀b:Int,b<(c:Int)->In B b->idx g.2.2 b=some (lf (rowS x b) (In B) (λ_=>False):Int))) B.length (s:=([],zf n false,zf n 0))
  ⟨by simp,λa=>⟨λh=>by simp at h,λ⟨h,k,_⟩=>by have:=(ka hB k).1;omega⟩,⟨by simp,λa I P=>by
   rw[dE I,zP,if_pos (by omega)];simp⟩,⟨by simp,λb A k=>by have:=(ka hB k).1;omega⟩⟩ (λc g W ⟨s,l,r,q⟩=>by
  obtain⟨Q,t,left⟩:=g
  dsimp only at s l r q
  rw[hB]at W
  obtain⟨m,k⟩:=bg (xs:=B) (i:=(c:Int)) (by omega) (by omega)
  obtain⟨G,D⟩:=bg (xs:=goal) (i:=(c:Int)) (by omega) (by omega)
  have ag:Q.length<=n:=cF n Q s λa z=>ka hB ((l a).1 z).2.1
  have X:(c:Int)∉Q:=λh=>by have:=((l _).1 h).1;omega
  have ah:=uL (row:=rowS x (c:Int)) (inn:=In B) (d:=λ_=>False)
  have af:=(qz wf (c:Int)).2.1
  obtain⟨ab,N,ak⟩:=bj (xs:=left) (i:=(c:Int)) (lf (rowS x (c:Int)) (In B) (λ_=>False):Int) (by omega) (by omega)
  obtain⟨ao,O,al⟩:=bj (xs:=t) (i:=(c:Int)) true (by omega) (by omega)
  obtain⟨an,Z⟩:=bg (xs:=left) (i:=(c:Int)) (by omega) (by omega)
  unfold cU
  dsimp only
  simp only[k,Af,D,andE,vl wf hB (show 0<=(c:Int) by omega) (show(c:Int)<n by omega),N,O,Z,r.2 (c:Int) (by omega) (by omega),app1 (show Q.length<=10000000000 by omega) (show Nat.ble 8 1024=true from rfl)]
  have H:∀(F:VI),F=(bif m then ab else left)->(F.length=n/\∀b:Int,b<((c+1:Nat):Int)->In B b->idx F b=some (lf (rowS x b) (In B) (λ_=>False):Int)):=λF e=>by
   subst e
   cases m with
   |true=>
    refine⟨by dsimp only[cond_true];omega,λb A w=>?_⟩
    dsimp only[cond_true]
    rw[bp N]
    by_cases e:b=(c:Int)
    .rw[if_pos e,e]
    .rw[if_neg e];exact q.2 b (by omega) w
   |false=>
    refine⟨q.1,λb A w=>?_⟩
    by_cases e:b=(c:Int)
    .subst e;unfold In at w;rw[k]at w;cases w
    .exact q.2 b (by omega) w
  have M:In B (c:Int)↔m=true:=by unfold In;rw[k];simp
  have L:In goal (c:Int)↔G=true:=by unfold In;rw[D];simp
  cases C:(m&&G) with
  |true=>
   have U:m=true:=by revert C;cases m <;> simp
   have V:G=true:=by revert C;cases m <;> simp
   subst U V
   simp only[cond_true,Af]
   refine⟨_,rfl,?_,?_,⟨by dsimp only;omega,?_⟩,H _ rfl⟩
   .dsimp only
    rw[zZ]
    exact⟨s,by simp,λac ha ad K=>by simp at K;subst K;exact λe=>X (e ▸ ha)⟩
   .intro a
    dsimp only
    rw[yu,yw,l a]
    constructor
    .rintro(⟨y,j,o⟩|rfl)
     .exact⟨by omega,j,o⟩
     .exact⟨by omega,M.2 rfl,L.2 rfl⟩
    .rintro⟨y,j,o⟩
     by_cases e:a=(c:Int)
     .exact .inr e
     .exact .inl ⟨by omega,j,o⟩
   .intro a I P
    dsimp only
    rw[bp O]
    by_cases e:a=(c:Int)
    .subst e;simp
    .rw[if_neg e,r.2 a I P];simp[e]
  |false=>
   have E:∀a,a∈Q↔a<((c+1:Nat):Int)/\In B a/\In goal a:=λa=>by
    rw[l a]
    constructor
    .rintro⟨y,j,o⟩;exact⟨by omega,j,o⟩
    .rintro⟨y,j,o⟩
     refine⟨?_,j,o⟩
     have:a≠(c:Int):=λe=>by
      subst e
      rw[M.1 j,L.1 o]at C
      cases C
     omega
   cases m with
   |true=>
    simp only[cond_true,cond_false,Af]
    exact⟨_,rfl,s,E,r,H _ rfl⟩
   |false=>
    simp only[cond_false,Af]
    exact⟨_,rfl,s,E,r,H _ rfl⟩)
 obtain⟨Q,t,left⟩:=g
 obtain⟨s,l,r,q⟩:=j
 dsimp only at s l r q
 have aa:∀b,lf (rowS x b) (In B) (λv=>v∈([]:VI))=lf (rowS x b) (In B) (λ_=>False):=λb=>dj λv _ _=>by simp
 refine⟨Q,t,left,y,⟨s,λa z=>((l a).1 z).2.1,λam a Y=> .inl ((l a).1 (ze Y)).2.2⟩,λa k D=>(l a).2 ⟨by have:=ka hB k;omega,k,D⟩,λa z E=>⟨λ_ v _ _ h=>by simp at h,λaj=>?_⟩,r,q.1,λb A E=>?_⟩
 .obtain⟨u,R,S⟩:=T a z
  exact⟨u,R,S,by simp⟩
 .rw[aa];exact q.2 b (by have:=ka hB A;omega) A
theorem vk {goal:VB}(ac:goal.length=n) (p:Bool) (ad:Par.NoDead (gS x) (In B)):∃A,eZ x B (b2i p) goal=some A/\A.length=n/\Par.IsAttr (gS x) (In B) p (In goal) (In A):=by
 have aN:=wf.n256
 obtain⟨Q0,aB,aw,X,am,an,ao,ap,aq⟩:=sW wf hB ac (p:=p) ad
 unfold eZ
 rw[hB,bL (by omega) rfl,Af,bL (by omega) rfl,Af]
 rw[hB]at X
 rw[X,Af,aU]
 dsimp only
 obtain⟨ax,aJ,aK⟩:=bI (f:=dS x B (b2i p)) (λc (b:VI×Int×VB×VI)=>b.2.1=(c:Int)/\c<=b.1.length/\Cert (rowS x) (ownL x.owner) (In B) p (In goal) b.1/\(∀a,In B a->In goal a->a∈b.1)/\Trap (rowS x) (ownL x.owner) (In B) p b.1 (λ_ m=>m∈b.1.take c) /\
  (b.2.2.1.length=n/\∀a:Int,0<=a->a<n->idx b.2.2.1 a=some (decide (a∈b.1)))/\(b.2.2.2.length=n/\∀d,In B d->d∉b.1->idx b.2.2.2 d=some (lf (rowS x d) (In B) (λm=>m∈b.1.take c):Int))) (λ_=>False)
  (λb=>∃Q,Cert (rowS x) (ownL x.owner) (In B) p (In goal) Q/\(∀a,In B a->In goal a->a∈Q)/\Trap (rowS x) (ownL x.owner) (In B) p Q (λ_ m=>m∈Q)/\(b.2.2.1.length=n/\∀a:Int,0<=a->a<n->idx b.2.2.1 a=some (decide (a∈Q)))) n (λc b ⟨O,Z,o,F,t,G,H⟩=>by
  obtain⟨Q,aO,az,left⟩:=b
  dsimp only at O Z o F t G H
  subst O
  have aM:=qU hB o
  unfold dS
  dsimp only
  by_cases V:(c:Int)<(Q.length:Int)
  .have l:c<Q.length:=by omega
   have i:Q[c]? =some Q[c]:=nx l
   have z:Q=Q.take c++Q[c]::Q.drop (c+1):=by rw[← List.drop_eq_getElem_cons l,List.take_append_drop]
   generalize Q[c]=u at i z
   obtain⟨aF,aG⟩:=ka hB (o.mem u (ze i))
   obtain⟨P,L⟩:=bg (xs:=x.prev) aF (by rw[wf.lv];exact aG)
   obtain⟨aC,aR,aD⟩:=wf.prev u P L
   simp only[V,decide_true,cond_true,aS,i,Af]
   have ai:Mid (rowS x) (ownL x.owner) (In B) p (In goal) (Q.take c) u [] Q:=by
    have:=Mid.first (T:=Q.take c) (u:=u) (R:=Q.drop (c+1)) (z ▸ o) (z ▸ t)
    rwa [← z]at this
   obtain⟨ay,N,aI⟩:=bI (f:=cu x B (b2i p) u) (λg (b:VI×Int×VB×VI)=>b.2.1=(g:Int)/\g<=P.length/\Mid (rowS x) (ownL x.owner) (In B) p (In goal) (Q.take c) u (P.take g) b.1 /\
    (b.2.2.1.length=n/\∀a:Int,0<=a->a<n->idx b.2.2.1 a=some (decide (a∈b.1)))/\(b.2.2.2.length=n/\∀d,In B d->d∉b.1->idx b.2.2.2 d=some (lf (rowS x d) (In B) (dn (Q.take c) u (P.take g) d):Int))/\(∀a∈Q,a∈b.1)) (λ_=>False)
    (λb=>Mid (rowS x) (ownL x.owner) (In B) p (In goal) (Q.take c) u P b.1/\(b.2.2.1.length=n/\∀a:Int,0<=a->a<n->idx b.2.2.1 a=some (decide (a∈b.1)))/\(b.2.2.2.length=n/\∀d,In B d->d∉b.1->idx b.2.2.2 d=some (lf (rowS x d) (In B) (dn (Q.take c) u P d):Int))/\(∀a∈Q,a∈b.1)) P.length (λg b ⟨S,aa,q,I,v,K⟩=>by
    obtain⟨Q',al,aA,av⟩:=b
    dsimp only at S aa q I v K
    subst S
    by_cases C:g<P.length
    .have e:P[g]? =some P[g]:=nx C
     generalize P[g]=a at e
     have aL:=qU hB q.cert
     obtain⟨Q2,aQ,aP,j,w,r,y,ab⟩:=r8 wf hB q (oA aC e) L e (by omega) I v
     refine⟨_,j,by omega,rfl,by omega,?_,r,?_,λa e=>ab a (K a e)⟩
     .rw[bi e];exact w
     .rw[bi e];exact y
    .unfold cu
     rw[L,Af]
     have:¬(g:Int)<(P.length:Int):=by omega
     dsimp only
     simp only[this,decide_false,cond_false]
     have k:P.take g=P:=zi (by omega)
     rw[k]at q v
     exact⟨_,rfl,q,I,v,K⟩) (2 ^ 64) 0 (Q,0,az,left) (by omega) ⟨rfl,by omega,by simpa using ai,G,⟨H.1,λd E D=>by
      rw[H.2 d E D]
      congr 2
      exact dj λm _ _=>(jq (by simp)).symm⟩,λ_ h=>h⟩ (by omega)
   match ay,aI with
   |.inr b,⟨j,w,r,y⟩=>
    obtain⟨Q',al,aA,av⟩:=b
    dsimp only at j w r y
    have aj:zr .i64 ((c:Int)+1)=((c+1:Nat):Int):=by rw[wr' (by omega) (by omega)];omega
    rw[N,Af,aU,aj]
    have W:Q'.take (c+1)=Q.take c++[u]:=by
     obtain⟨R,k⟩:=j.hu
     have l:(Q.take c).length=c:=by rw[y8];omega
     rw[k,show Q.take c++u::R=(Q.take c++[u])++R from by simp,Ab (by rw[yq,l];simp),zi (by rw[yq,l];simp)]
    have ah:c+1<=Q'.length:=by
     obtain⟨R,k⟩:=j.hu
     have l:(Q.take c).length=c:=by rw[y8];omega
     rw[k,yq,l,yr];omega
    have U:∀a,In B a->u∈rowS x a->a∈P:=λa e i=>by
     rw[aD]
     unfold rowS at i
     cases s:idx x.next a with
     |none=>rw[s]at i;simp at i
     |some aE=>
      cases C:idx x.pick a with
      |none=>rw[s,C]at i;simp at i
      |some g=>rw[s,C]at i;exact⟨aE,rfl,(zV.1 i).1⟩
    have ag:c<n:=by omega
    refine⟨_,rfl,ag,rfl,ah,j.cert,λa ae af=>y a (F a ae af),?_,w,r.1,λd E D=>?_⟩
    .dsimp only
     rw[W];exact j.last U
    .dsimp only
     dsimp only at D
     rw[r.2 d E D,W]
     congr 2
     exact dj λm ak _=>by
      unfold dn
      rw[yu,yw]
      constructor
      .rintro(h|⟨h,_⟩)
       .exact .inl h
       .exact .inr h
      .rintro(h|h)
       .exact .inl h
       .exact .inr ⟨h,U d E (h ▸ ak)⟩
  .simp only[V,decide_false,cond_false]
   rw[zi (by omega)]at t
   exact⟨_,rfl,Q,o,F,t,G⟩) (2 ^ 64) 0 (Q0,0,aB,aw) (by omega) ⟨rfl,by omega,am,an,by simpa using ao,ap,by simpa using aq⟩ (by omega)
 match ax,aK with
 |.inr b,⟨Q,Y,ar,au,M⟩=>
  rw[aJ,Af,aU]
  refine⟨_,rfl,M.1,?_⟩
  have ha:=Y.attr (pri:=priL x.prio) ar au
  have k:(λa=>a∈Q)=In b.2.2.1:=by
   funext a
   apply propext
   constructor
   .intro e
    obtain⟨aH,N⟩:=ka hB (Y.mem a e)
    unfold In;rw[M.2 a aH N];simp[e]
   .intro e
    have s:=bu e
    unfold In at e
    rw[M.2 a s.1 (by omega)]at e
    simpa using e
  rw[← k];exact ha
end
structure WfI (x:solver) (n:Nat):Prop where
 n256:n<=256
 lo:x.game.Arena.Owner.length=n
 lp:x.game.Prio.length=n
 ln:x.game.Arena.Next.length=n
 lv:x.preds.length=n
 ow:∀v o,idx x.game.Arena.Owner v=some o->o=0\/o=1
 row:∀v r,idx x.game.Arena.Next v=some r->r.length<=16/\r.Nodup/\∀u∈r,0<=u/\u<n
 prev:∀u P,idx x.preds u=some P->P.Nodup/\P.length<=100000/\∀v,v∈P↔∃r,idx x.game.Arena.Next v=some r/\u∈r
def bm (a:Arena) (v:Int):VI:=(idx a.Next v).getD []
def gI (g:Parity):Par.Gm:=mkG (bm g.Arena) (ownL g.Arena.Owner) (priL g.Prio)
theorem c8 {a:Arena}{v:Int}{r:VI}(b:idx a.Next v=some r):bm a v=r:=by unfold bm;rw[b];rfl
theorem xx {O:VI}{v o:Int}{p:Bool}(h:idx O v=some o) (a:o=0\/o=1):(o !=b2i p)=decide (¬ownL O v=p):=by
 have:=qk (p:=p) h a
 rw[bne,this]
 by_cases h:ownL O v=p <;> simp[h]
section
variable {x:solver}{n:Nat}(wf:WfI x n){B:VB}(hB:B.length=n)
include wf
theorem tK (v:Int):(bm x.game.Arena v).Nodup/\(bm x.game.Arena v).length<=16/\∀u∈bm x.game.Arena v,0<=u/\u<n:=by
 unfold bm
 cases d:idx x.game.Arena.Next v with
 |none=>simp
 |some e=>
  obtain⟨a,b,c⟩:=wf.row v e d
  exact⟨b,a,c⟩
include hB
omit wf in
theorem nG {v:Int}(h:In B v):0<=v/\v<n:=by
 have:=bu h
 rw[hB]at this
 exact this
theorem vT {v:Int}{r left:VI}(A:idx x.game.Arena.Next v=some r) (z:left.length=n) (m:idx left v=some 0):∃k,cntM (bO B v r) r.length 0 left=some (.inr k)/\k.length=n /\
 idx k v=some (lf r (In B) (λ_=>False):Int)/\∀b,b≠v->idx k b=idx left b:=by
 classical
 obtain⟨I,K,D⟩:=wf.row v r A
 have H:=bu m
 obtain⟨d,w,g⟩:=ba (f:=bO B v r) (λa (d:VI)=>d.length=n/\idx d v=some (((r.take a).filter (λc=>decide (In B c))).length:Int)/\∀b,b≠v->idx d b=idx left b) r.length (s:=left) ⟨z,by simpa using m,λ_ _=>rfl⟩ (λa d y ⟨C,s,t⟩=>by
  have j:r[a]? =some r[a]:=nx y
  generalize r[a]=u at j
  obtain⟨E,M⟩:=D u (ze j)
  obtain⟨e,o⟩:=bg (xs:=B) E (by omega)
  have F:((r.take a).filter (λc=>decide (In B c))).length<=a:=Ae (zR _ _) (by rw[y8];omega)
  obtain⟨L,l,G⟩:=bj (xs:=d) (i:=v) (((r.take a).filter (λc=>decide (In B c))).length+1:Int) (by omega) (by omega)
  unfold bO
  simp only[aS,j,Af,o,s]
  rw[wr' (by omega) (by omega)]
  have p:(r.take (a+1)).filter (λc=>decide (In B c))=(r.take a).filter (λc=>decide (In B c))++(if e then[u] else[]):=by
   rw[bi j,zM];congr 1
   have:In B u↔e=true:=by unfold In;rw[o];simp
   cases e with
   |true=>simp[this]
   |false=>simp[this]
  cases e with
  |true=>
   simp only[cond_true,l,Af]
   refine⟨_,rfl,by omega,?_,λb q=>?_⟩
   .rw[bp l,if_pos rfl,p];simp
   .rw[bp l,if_neg q];exact t b q
  |false=>
   simp only[cond_false,Af]
   exact⟨_,rfl,C,by rw[p];simpa using s,t⟩)
 rw[Ac]at g
 refine⟨d,w,g.1,?_,g.2.2⟩
 rw[g.2.1]
 unfold lf
 congr 3
 apply zN
 intro u _
 simp
def LI (x:solver) (B:VB) (left:VI) (w:Int) (d:Int->Prop):Prop:=idx left w=some (lf (bm x.game.Arena w) (In B) d:Int)\/(idx left w=some 0/\∀a∈bm x.game.Arena w,In B a->¬d a)
omit wf hB in
theorem LI.congr {left:VI}{w:Int}{d b:Int->Prop}(h:LI x B left w d) (e:∀a∈bm x.game.Arena w,In B a->(d a↔b a)):LI x B left w b:=by
 rcases h with h|⟨g,i⟩
 .left;rw[h];congr 2;exact dj e
 .right;exact⟨g,λa f c j=>i a f c ((e a f c).2 j)⟩
theorem rt {goal:Int->Prop}{p:Bool}{T L Q R:VI}{u v:Int}{out:VB}{left:VI}(t:Mid (bm x.game.Arena) (ownL x.game.Arena.Owner) (In B) p goal T u L Q) (E:Q=T++u::R) (ar:v∉L)
 {P:VI} {j:Nat} (al:idx x.preds u=some P) (aa:P[j]? =some v) (aJ:Q.length<=100000)
 (F:out.length=n/\∀v:Int,0<=v->v<n->idx out v=some (decide (v∈Q))) (k:left.length=n/\∀v,In B v->v∉Q->¬ownL x.game.Arena.Owner v=p->LI x B left v (dn T u L v)):
 ∃R' g m,cn x (b2i p) B P (j:Int) (R,out,left)=some (.inr (.inr (R',g,m)))/\Mid (bm x.game.Arena) (ownL x.game.Arena.Owner) (In B) p goal T u (L++[v]) (T++u::R') /\
  (g.length=n/\∀v:Int,0<=v->v<n->idx g v=some (decide (v∈T++u::R')))/\(m.length=n/\∀b,In B b->b∉T++u::R'->¬ownL x.game.Arena.Owner b=p->LI x B m b (dn T u (L++[v]) b))/\(∀v∈Q,v∈T++u::R'):=by
 have aN:=wf.n256
 obtain⟨aQ,aR,aB⟩:=wf.prev u P al
 obtain⟨af,H,ae⟩:=(aB v).1 (ze aa)
 have I:=c8 H
 obtain⟨z,W⟩:=bu H
 rw[wf.ln]at W
 obtain⟨ag,O⟩:=bg (xs:=B) z (by omega)
 obtain⟨b,d⟩:=bg (xs:=x.game.Arena.Owner) z (by rw[wf.lo];exact W)
 have aK:R.length<=100000:=by
  have:=congrArg List.length E
  rw[yq,yr]at this;omega
 unfold cn
 rw[aS,aa,Af,F.2 v z W,Af,O]
 dsimp only
 simp only[Af,orE]
 have Y:∀y:VI,(y.length=n/\∀b,b≠v->idx y b=idx left b)->In B v->v∉Q->(ownL x.game.Arena.Owner v=p\/lf (bm x.game.Arena v) (In B) (λa=>a∈T\/a=u)=0) ->
  ∃R' g m,(zm (setI out v true) λaF=>zm (appS 8 R [v]) λaC=>(some (.inr (.inr (aC,aF,y))):Option (VB⊕((VI×VB×VI)⊕(VI×VB×VI)))))=some (.inr (.inr (R',g,m)))/\Mid (bm x.game.Arena) (ownL x.game.Arena.Owner) (In B) p goal T u (L++[v]) (T++u::R') /\
  (g.length=n/\∀v:Int,0<=v->v<n->idx g v=some (decide (v∈T++u::R')))/\(m.length=n/\∀b,In B b->b∉T++u::R'->¬ownL x.game.Arena.Owner b=p->LI x B m b (dn T u (L++[v]) b))/\(∀v∈Q,v∈T++u::R'):=λy ⟨az,aA⟩ l o s=>by
  obtain⟨g,ad,aP⟩:=bj (xs:=out) (i:=v) true z (by omega)
  have D:T++u::(R++[v])=Q++[v]:=by rw[E];simp
  refine⟨R++[v],g,y,by rw[ad,Af,app1 (by omega) rfl,Af],?_,⟨by omega,λa aD aE=>?_⟩,⟨az,λb d G e=>?_⟩,λa q=>by rw[D];exact zT _ q⟩
  .rw[D];exact t.add l o (I ▸ ae) s
  .rw[bp ad,D]
   by_cases c:a=v
   .subst c;simp
   .rw[if_neg c,F.2 a aD aE];simp[c]
  .rw[D,yu,yw,not_or]at G
   have:=k.2 b d G.1 e
   unfold LI at this ⊢
   rw[aA b G.2]
   exact LI.congr (left:=left) this λa _ _=>(ef G.2).symm
 by_cases w:(decide (v∈Q) || !ag)=true
 .rw[w,cond_true]
  have Z:¬In B v\/v∈Q\/u∉bm x.game.Arena v:=by
   simp only[zH,Bool.not_eq_true',decide_eq_true_eq]at w
   rcases w with h|h
   .exact .inr (.inl h)
   .left;unfold In;rw[O,h];simp
  subst E
  refine⟨R,out,left,rfl,t.skip Z,F,⟨k.1,λa q o e=>?_⟩,λ_ h=>h⟩
  refine LI.congr (k.2 a q o e) λaG K _=>?_
  by_cases c:a=v
  .subst c
   rcases Z with h|h|h
   .exact absurd q h
   .exact absurd h o
   .have:aG≠u:=λc=>h (c ▸ K)
    unfold dn;simp[this]
  .exact(ef c).symm
 .simp only[Bool.not_eq_true,Bool.or_eq_false_iff,Bool.not_eq_false',decide_eq_false_iff_not]at w
  obtain⟨C,ak⟩:=w
  subst ak
  have l:In B v:=O
  have aq:u∈bm x.game.Arena v:=I ▸ ae
  simp only[C,decide_false,zG,Bool.or_false,cond_false,d,Af,xx d (wf.ow v b d)]
  by_cases e:ownL x.game.Arena.Owner v=p
  .have:decide (¬ownL x.game.Arena.Owner v=p)=false:=by simp[e]
   simp only[this,cond_false]
   exact Y left ⟨k.1,λ_ _=>rfl⟩ l C (.inl e)
  .have:decide (¬ownL x.game.Arena.Owner v=p)=true:=by simp[e]
   simp only[this,cond_true]
   have aL:lf (bm x.game.Arena v) (In B) (λa=>a∈T\/a=u)+1=lf (bm x.game.Arena v) (In B) (dn T u L v):=by
    rw[qb (tK wf v).1 aq t.u_in.2.2 t.u_in.2.1]
    exact dj λa _ _=>(jq ar).symm
   have aM:lf (bm x.game.Arena v) (In B) (dn T u L v)<=16:=Ae uL (tK wf v).2.1
   -- the count, made or known
   have am:∃f,(zm (idx left v) λX=>(bif (X==0) then
    zm (idx x.game.Arena.Next v) λA=>
    zm (cntM (bO B v A) A.length 0 left) λU=>
    aft (λaf=>none) (λV=>
     some (V:VI)) U
    else
     some left))=some f/\f.length=n/\idx f v=some (lf (bm x.game.Arena v) (In B) (dn T u L v):Int)/\∀b,b≠v->idx f b=idx left b:=by
    have K:=k.2 v l C e
    by_cases r:idx left v=some 0
    .obtain⟨f,av,aw,ax,ay⟩:=vT wf hB H k.1 r
     refine⟨f,?_,aw,?_,ay⟩
     .simp only[r,Af,H,av,aU]
      rfl
     .rw[ax,I]
      congr 2
      rcases K with h|⟨_,h⟩
      .rw[r]at h
       have:=zt h
       omega
      .exact dj λa q l=>⟨λh=>h.elim,λan=>h a (by rw[I];exact q) l an⟩
    .rcases K with h|⟨h,_⟩
     .refine⟨left,?_,k.1,h,λ_ _=>rfl⟩
      have:((lf (bm x.game.Arena v) (In B) (dn T u L v):Int)==0)=false:=by
       have:lf (bm x.game.Arena v) (In B) (dn T u L v)≠0:=λc=>r (by rw[h,c];rfl)
       simp[this]
      simp only[h,Af,this,cond_false]
     .exact absurd h r
   obtain⟨f,ah,aI,ai,aj⟩:=am
   have ap:∀{aH:Type} (N:VI->Option aH),(zm (idx left v) λX=>zm (bif (X==0) then
    zm (idx x.game.Arena.Next v) λA=>
    zm (cntM (bO B v A) A.length 0 left) λU=>
    aft (λaf=>none) (λV=>
     some (V:VI)) U
    else
     some left) N)=zm (some f) N:=λN=>by rw[← ah];cases idx left v <;> rfl
   rw[ap,Af,ai,Af,Af]
   have au:zr .i64 ((lf (bm x.game.Arena v) (In B) (dn T u L v):Int)-1)=(lf (bm x.game.Arena v) (In B) (λa=>a∈T\/a=u):Int):=by rw[wr' (by omega) (by omega)];omega
   obtain⟨M,S,aO⟩:=bj (xs:=f) (i:=v) (lf (bm x.game.Arena v) (In B) (λa=>a∈T\/a=u):Int) z (by omega)
   have ab:idx M v=some (lf (bm x.game.Arena v) (In B) (λa=>a∈T\/a=u):Int):=by rw[bp S,if_pos rfl]
   have ac:∀b,b≠v->idx M b=idx left b:=λb d=>by rw[bp S,if_neg d,aj b d]
   rw[au,S,Af,ab,Af]
   by_cases s:lf (bm x.game.Arena v) (In B) (λa=>a∈T\/a=u)=0
   .have:decide ((0:Int)<(lf (bm x.game.Arena v) (In B) (λa=>a∈T\/a=u):Int))=false:=by simp[s]
    rw[this,cond_false]
    exact Y M ⟨by omega,ac⟩ l C (.inr s)
   .have:decide ((0:Int)<(lf (bm x.game.Arena v) (In B) (λa=>a∈T\/a=u):Int))=true:=by simp;omega
    rw[this,cond_true]
    subst E
    refine⟨R,out,M,rfl,t.stay e s,F,⟨by omega,λb d o ao=>?_⟩,λ_ h=>h⟩
    by_cases c:b=v
    .subst c
     left
     rw[ab]
     congr 2
     exact dj λa _ _=>pU.symm
    .have:=k.2 b d o ao
     unfold LI at this ⊢
     rw[ac b c]
     exact LI.congr (left:=left) this λa _ _=>(ef c).symm
end
def hasN (N:VV) (u:Int) (v:Nat):Bool:=match N[v]? with
 |some a=>decide (u∈a)
 |none=>false
def prevL (N:VV) (u:Int) (j:Nat):VI:=((List.range j).filter (hasN N u)).map zK
theorem sJ (N:VV) (u:Int) (j:Nat):prevL N u (j+1)=prevL N u j++(if hasN N u j=true then[(j:Int)] else[]):=by
 unfold prevL
 rw[List.range_succ,zM,List.map_append]
 congr 1
 by_cases h:hasN N u j=true
 .rw[if_pos h,zO,if_pos h];rfl
 .rw[if_neg h,zO,if_neg h];rfl
theorem lC:∀{xs:List Nat},xs.Nodup->(xs.map zK).Nodup
 | [],_=>by simp
 |x::xs,h=>by
  obtain⟨b,c⟩:=z6.1 h
  rw[List.map_cons,z6]
  refine⟨λd=>?_,lC c⟩
  obtain⟨f,e,a⟩:=List.mem_map.1 d
  have:f=x:=Int.ofNat.inj a
  exact b (this ▸ e)
theorem nh (N:VV) (u:Int) (j:Nat):(prevL N u j).Nodup:=by
 unfold prevL
 exact lC (List.nodup_range.filter _)
theorem mR (N:VV) (u:Int) (j:Nat):(prevL N u j).length<=j:=by
 unfold prevL
 rw[List.length_map]
 exact Ae (zR _ _) (by rw[List.length_range];omega)
theorem pF {N:VV}{u v:Int}{n:Nat}(k:N.length=n):v∈prevL N u n↔∃e,idx N v=some e/\u∈e:=by
 unfold prevL
 rw[List.mem_map]
 constructor
 .rintro⟨a,d,rfl⟩
  obtain⟨g,b⟩:=zV.1 d
  unfold hasN at b
  rw[zX]at g
  have f:N[a]? =some N[a]:=nx (by omega)
  rw[f]at b
  exact⟨N[a],by rw[show(zK a)=(a:Int) from rfl,aS,f],by simpa using b⟩
 .rintro⟨e,c,j⟩
  obtain⟨i,g⟩:=bu c
  obtain⟨a,d⟩:=bA i
  subst d
  rw[aS]at c
  refine⟨a,zV.2 ⟨zX.2 (by omega),?_⟩,rfl⟩
  unfold hasN
  rw[c]
  simpa using j
def PrevM (N:VV) (n j:Nat) (row:VI) (i:Nat) (t:VV):Prop:=t.length=n/\∀u:Int,0<=u->u<n->idx t u=some (prevL N u j++(if u∈row.take i then[(j:Int)] else[]))
def PrevT (N:VV) (n j:Nat) (t:VV):Prop:=t.length=n/\∀u:Int,0<=u->u<n->idx t u=some (prevL N u j)
theorem PrevT.zero {N:VV}{n:Nat}:PrevT N n 0 (zf n []):=⟨by simp,λu a b=>by
 rw[dE a,zP,if_pos (by omega)];rfl⟩
theorem PrevT.first {N:VV}{n j:Nat}{t:VV}(h:PrevT N n j t) (row:VI):PrevM N n j row 0 t:=⟨h.1,λu a b=>by rw[h.2 u a b];simp⟩
theorem PrevM.last {N:VV}{n j:Nat}{row:VI}{t:VV}(a:N[j]? =some row) (h:PrevM N n j row row.length t):PrevT N n (j+1) t:=⟨h.1,λu c d=>by
 rw[h.2 u c d,sJ,Ac]
 unfold hasN
 rw[a]
 by_cases b:u∈row <;> simp[b]⟩
theorem PrevM.step {N:VV}{n j i:Nat}{row:VI}{t:VV}{u:Int}(h:PrevM N n j row i t) (f:row[i]? =some u) (o:row.Nodup) (g:0<=u) (k:u<n):
 ∃d,idx t u=some d/\d.length<=j+1/\∃b,setI t u (d++[(j:Int)])=some b/\PrevM N n j row (i+1) b:=by
 refine⟨_,h.2 u g k,?_,?_⟩
 .have:=mR N u j
  rw[yq]
  split
  .simp;omega
  .simp;omega
 .have p:u∉row.take i:=by
   have a:=o.sublist (Ad (i+1) row)
   rw[Aa,f,zZ]at a
   exact λm=>a.2.2 u m u (by simp) rfl
  obtain⟨b,e,a⟩:=bj (xs:=t) (i:=u) (prevL N u j++(if u∈row.take i then[(j:Int)] else[])++[(j:Int)]) g (by rw[h.1];exact k)
  refine⟨b,e,by rw[a];exact h.1,λl r s=>?_⟩
  have q:row.take (i+1)=row.take i++[u]:=by rw[Aa,f];rfl
  rw[bp e,q]
  by_cases c:l=u
  .subst c
   rw[if_pos rfl,if_neg p]
   simp
  .rw[if_neg c,h.2 l r s]
   congr 2
   simp[c]
def bE (B:VB) (j:Nat):VI:=((List.range j).filter (λa=>B[a]?.getD false)).map zK
theorem ng {B:VB}{j:Nat}{b:Bool}(h:B[j]? =some b):bE B (j+1)=bE B j++(if b=true then[(j:Int)] else[]):=by
 unfold bE
 rw[List.range_succ,zM,List.map_append]
 congr 1
 rw[zO,h]
 cases b <;> rfl
theorem jW (B:VB) (j:Nat):(bE B j).Nodup:=by
 unfold bE
 exact lC (List.nodup_range.filter _)
theorem gk (B:VB) (j:Nat):(bE B j).length<=j:=by
 unfold bE
 rw[List.length_map]
 exact Ae (zR _ _) (by rw[List.length_range];omega)
theorem bF {B:VB}{v:Int}:v∈bE B B.length↔In B v:=by
 unfold bE In
 rw[List.mem_map]
 constructor
 .rintro⟨a,c,rfl⟩
  obtain⟨b,d⟩:=zV.1 c
  rw[zX]at b
  rw[show(zK a)=(a:Int) from rfl,aS]
  have e:B[a]? =some B[a]:=nx b
  rw[e]at d ⊢
  simpa using d
 .intro h
  obtain⟨f,b⟩:=bu h
  obtain⟨a,c⟩:=bA f
  subst c
  rw[aS]at h
  exact⟨a,zV.2 ⟨zX.2 (by omega),by rw[h];rfl⟩,rfl⟩
theorem gl {ys:VI}:∀{xs:VI},xs.Nodup->(∀x∈xs,x∈ys)->xs.length<=ys.length:=by
 induction ys with
 |nil=>
  intro xs _ h
  cases xs with
  |nil=>simp
  |cons x xs=>exact absurd (h x (zU ..)) (by simp)
 |cons e ys d=>
  intro xs b h
  by_cases c:e∈xs
  .have g:=List.length_erase_of_mem c
   have i:=d (xs:=xs.erase e) (b.erase _) (λx a=>by
    rw[b.mem_erase_iff]at a
    exact(yv.1 (h x a.2)).resolve_left a.1)
   rw[yr]
   omega
  .have:=d (xs:=xs) b (λx a=>(yv.1 (h x a)).resolve_left λf=>c (f ▸ a))
   rw[yr]
   omega
def cnt (B:VB):Nat:=(bE B B.length).length
theorem mI (B:VB):cnt B<=B.length:=gk _ _
theorem vL {A B:VB}(h:∀a,In A a->In B a):cnt A<=cnt B:=by
 unfold cnt
 exact gl (jW _ _) λa b=>bF.2 (h a (bF.1 b))
theorem nY {A B:VB}(h:∀a,In A a->In B a){w:Int}(g:In B w) (e:¬In A w):cnt A<cnt B:=by
 have f:∀a∈w::bE A A.length,a∈bE B B.length:=λa b=>by
  rcases yv.1 b with rfl|b
  .exact bF.2 g
  .exact bF.2 (h a (bF.1 b))
 have c:(w::bE A A.length).Nodup:=z6.2 ⟨λd=>e (bF.1 d),jW _ _⟩
 have:=gl c f
 rw[yr]at this
 exact this
theorem nZ {B:VB}(h:cnt B=0) (v:Int):¬In B v:=λa=>by
 have:=bF.2 a
 unfold cnt at h
 rw[zQ]at h
 rw[h]at this
 cases this
theorem fill {v c:Type}{f:Int->List c->Option (v⊕(List c⊕List c))}(d:Nat->c) (n:Nat){s0:List c}(k:s0.length=n)
 (t:∀(j:Nat) a,j<n->a.length=n->f (j:Int) a=zm (idx a (j:Int)) λ_=>zm (setI a (j:Int) (d j)) λu=>some (.inr (.inr u))):
 ∃a,cntM f n 0 s0=some (.inr a)/\a.length=n/\∀j:Nat,j<n->idx a (j:Int)=some (d j):=by
 obtain⟨a,l,m,o⟩:=ba (f:=f) (λj (a:List c)=>a.length=n/\∀b:Nat,b<j->idx a (b:Int)=some (d b)) n (s:=s0) ⟨k,λb e=>absurd e (Nat.not_lt_zero b)⟩ (λj a p ⟨r,s⟩=>by
  obtain⟨x,q⟩:=bg (xs:=a) (i:=(j:Int)) (by omega) (by omega)
  obtain⟨y,g,w⟩:=bj (xs:=a) (i:=(j:Int)) (d j) (by omega) (by omega)
  rw[t j a p r,q,Af,g,Af]
  refine⟨_,rfl,by omega,λb e=>?_⟩
  rw[bp g]
  by_cases i:(b:Int)=(j:Int)
  .have:b=j:=by omega
   subst this
   rw[if_pos rfl]
  .rw[if_neg i];exact s b (by omega))
 exact⟨a,l,m,o⟩
theorem fillB {q:Type}{f:Int->VB->Option (q⊕(VB⊕VB))}(P:Int->Prop) [∀b,Decidable (P b)] (n:Nat){s0:VB}(g:s0.length=n)
 (m:∀(j:Nat) a,j<n->a.length=n->f (j:Int) a=zm (idx a (j:Int)) λ_=>zm (setI a (j:Int) (decide (P (j:Int)))) λp=>some (.inr (.inr p))) (l:∀b,P b->0<=b/\b<n):
 ∃a,cntM f n 0 s0=some (.inr a)/\a.length=n/\∀b,In a b↔P b:=by
 obtain⟨a,i,k,e⟩:=fill (f:=f) (λj=>decide (P (j:Int))) n g m
 refine⟨a,i,k,λb=>?_⟩
 constructor
 .intro h
  obtain⟨d,o⟩:=bu h
  obtain⟨j,c⟩:=bA d
  subst c
  have:=e j (by omega)
  unfold In at h
  rw[h]at this
  exact of_decide_eq_true (zt this).symm
 .intro h
  obtain⟨d,o⟩:=l b h
  obtain⟨j,c⟩:=bA d
  subst c
  unfold In
  rw[e j (by omega),decide_eq_true h]
instance (B:VB) (v:Int):Decidable (In B v):=by unfold In;exact inferInstance
theorem wU {B:VB}{v:Int}{b:Bool}(h:idx B v=some b):b=decide (In B v):=by
 have:In B v↔b=true:=by unfold In;rw[h];simp
 rw[zE];simp[this]
theorem cd {B:VB}{v:Int}(b:0<=v) (c:v<B.length):idx B v=some (decide (In B v)):=by
 obtain⟨d,a⟩:=bg (xs:=B) b c
 rw[← wU a];exact a
theorem ii {B:VB}{n:Nat}(hB:B.length=n){v:Int}(h:In B v):0<=v/\v<n:=by
 have:=bu h
 rw[hB]at this
 exact this
theorem jD {B:VB}(k:B.length<=1000000):em B=some (bE B B.length):=by
 obtain⟨c,e,g⟩:=ba (f:=gK B) (λa (c:VI)=>c=bE B a) B.length (s:=[]) rfl (λa c i j=>by
  subst j
  have d:B[a]? =some B[a]:=nx i
  generalize B[a]=b at d
  have l:=gk B a
  unfold gK
  rw[aS,d,Af,ng d]
  cases b with
  |true=>
   simp only[cond_true]
   rw[app1 (by omega) rfl,Af,Af]
   exact⟨_,rfl,rfl⟩
  |false=>
   simp only[cond_false,Af]
   exact⟨_,rfl,by simp⟩)
 unfold em
 rw[e,Af,aU,g]
theorem j6 {A B:VB}{n:Nat}(b:A.length=n) (hB:B.length=n) (j:n<=256):∃R,dz A B=some R/\R.length=n/\∀a,In R a↔In A a/\¬In B a:=by
 unfold dz
 rw[b,bL (by omega) rfl,Af]
 obtain⟨R,c,d,e⟩:=fillB (f:=fL A B) (λa=>In A a/\¬In B a) n (s0:=zf n false) (by simp) (λl m i k=>by
  unfold fL
  rw[cd (B:=A) (by omega) (by omega),Af,cd (B:=B) (by omega) (by omega),Af,andE,Af]
  congr 1
  funext _
  congr 2
  rw[zE];simp) (λa g=>ii b g.1)
 rw[c,Af,aU]
 exact⟨R,rfl,d,e⟩
section
variable {x:solver}{n:Nat}(wf:WfI x n){B:VB}(hB:B.length=n)
include wf hB
omit wf in
theorem px {p:Bool}{goal:Int->Prop}{Q:VI}(h:Cert (bm x.game.Arena) (ownL x.game.Arena.Owner) (In B) p goal Q):Q.length<=n:=cF n Q h.nd λb a=>nG hB (h.mem b a)
theorem uF {goal:VB}(ac:goal.length=n) (p:Bool) (ad:Par.NoDead (gI x.game) (In B)) (ai:∀a,In goal a->In B a):∃A,dw x (b2i p) B goal=some A/\A.length=n/\Par.IsAttr (gI x.game) (In B) p (In goal) (In A):=by
 have aE:=wf.n256
 unfold dw
 rw[appL (by rw[zS];omega) rfl,Af,hB,bL (by omega) rfl,Af,jD (by omega),Af,List.nil_append]
 have w:∀a,a∈bE goal goal.length↔In goal a:=λa=>bF
 have ae:Cert (bm x.game.Arena) (ownL x.game.Arena.Owner) (In B) p (In goal) (bE goal goal.length):=⟨jW _ _,λa c=>ai a ((w a).1 c),λj a H=> .inl ((w a).1 (ze H))⟩
 have aj:Trap (bm x.game.Arena) (ownL x.game.Arena.Owner) (In B) p (bE goal goal.length) (λ_ g=>g∈([]:VI)):=λa c i=>⟨λ_ g _ _ h=>by simp at h,λq=>by
  obtain⟨u,aa,F⟩:=ad a c
  exact⟨u,aa,F,by simp⟩⟩
 obtain⟨ao,aA,aB⟩:=bI (f:=cP x (b2i p) B) (λI (b:VI×VB×VI)=>∃T Q,Q=T++b.1/\T.length=I/\Cert (bm x.game.Arena) (ownL x.game.Arena.Owner) (In B) p (In goal) Q/\(∀a,In goal a->a∈Q)/\Trap (bm x.game.Arena) (ownL x.game.Arena.Owner) (In B) p Q (λ_ g=>g∈T) /\
  (b.2.1.length=n/\∀a:Int,0<=a->a<n->idx b.2.1 a=some (decide (a∈Q)))/\(b.2.2.length=n/\∀d,In B d->d∉Q->¬ownL x.game.Arena.Owner d=p->LI x B b.2.2 d (λg=>g∈T))) (λ_=>False)
  (λb=>∃Q,Cert (bm x.game.Arena) (ownL x.game.Arena.Owner) (In B) p (In goal) Q/\(∀a,In goal a->a∈Q)/\Trap (bm x.game.Arena) (ownL x.game.Arena.Owner) (In B) p Q (λ_ g=>g∈Q)/\(b.2.1.length=n/\∀a:Int,0<=a->a<n->idx b.2.1 a=some (decide (a∈Q)))) n (λI b ⟨T,Q,e,X,s,M,N,C,D⟩=>by
  obtain⟨R,ap,left⟩:=b
  dsimp only at e C D
  have aD:=px hB s
  unfold cP
  dsimp only
  cases R with
  |nil=>
   rw[List.append_nil]at e
   subst e
   simp only[zS,Int.natCast_zero,Int.lt_irrefl,decide_false,cond_false]
   exact⟨_,rfl,Q,s,M,N,C⟩
  |cons u R=>
   have ag:(0:Int)<((u::R).length:Int):=by simp only[yr];omega
   obtain⟨ax,ay⟩:=nG hB (s.mem u (by rw[e];simp))
   obtain⟨P,G⟩:=bg (xs:=x.preds) ax (by rw[wf.lv];exact ay)
   obtain⟨ar,aH,au⟩:=wf.prev u P G
   have F:idx (u::R) 0=some u:=rfl
   have ab:subS (u::R) 1 ((u::R).length:Int)=some R:=by
    unfold subS
    rw[if_pos ⟨by omega,by simp only[yr];omega,by omega⟩,Int.toNat_natCast,Ac]
    rfl
   have ah:Mid (bm x.game.Arena) (ownL x.game.Arena.Owner) (In B) p (In goal) T u [] Q:=by
    have:=Mid.first (T:=T) (u:=u) (R:=R) (e ▸ s) (e ▸ N)
    rwa [← e]at this
   obtain⟨aw,z,az⟩:=ba (f:=cn x (b2i p) B P) (λj (b:VI×VB×VI)=>Mid (bm x.game.Arena) (ownL x.game.Arena.Owner) (In B) p (In goal) T u (P.take j) (T++u::b.1) /\
    (b.2.1.length=n/\∀a:Int,0<=a->a<n->idx b.2.1 a=some (decide (a∈T++u::b.1)))/\(b.2.2.length=n/\∀d,In B d->d∉T++u::b.1->¬ownL x.game.Arena.Owner d=p->LI x B b.2.2 d (dn T u (P.take j) d))/\(∀a∈Q,a∈T++u::b.1)) P.length (s:=(R,ap,left))
    ⟨by dsimp only;rw[← e];simpa using ah,by dsimp only;rw[← e];exact C,⟨D.1,λd m i q=>by
     dsimp only at i
     rw[← e]at i
     exact LI.congr (D.2 d m i q) λg _ _=>(jq (by simp)).symm⟩,λa c=>by dsimp only;rw[← e];exact c⟩ (λj b H ⟨E,O,S,U⟩=>by
    obtain⟨R',aq,an⟩:=b
    dsimp only at E O S U
    have c:P[j]? =some P[j]:=nx H
    generalize P[j]=a at c
    have aC:=px hB E.cert
    obtain⟨R2,aG,aF,k,t,l,v,Y⟩:=rt wf hB E rfl (oA ar c) G c (by omega) O S
    refine⟨_,k,?_,l,?_,λa c=>Y a (U a c)⟩
    .rw[bi c];exact t
    .rw[bi c];exact v)
   obtain⟨R',aq,an⟩:=aw
   obtain⟨k,t,l,v⟩:=az
   rw[Ac]at k l
   dsimp only at k t l v
   simp only[ag,decide_true,cond_true,F,ab,Af,G,z,aU]
   have V:∀a,In B a->u∈bm x.game.Arena a->a∈P:=λa c r=>by
    rw[au]
    unfold bm at r
    cases y:idx x.game.Arena.Next a with
    |none=>rw[y]at r;simp at r
    |some av=>rw[y]at r;exact⟨av,rfl,r⟩
   have af:I<n:=by
    have:=congrArg List.length e
    rw[yq,yr]at this
    omega
   refine⟨_,rfl,af,T++[u],T++u::R',by simp,by rw[yq,X];rfl,k.cert,λa o=>v a (M a o),k.last V,t,l.1,λd m i q=>?_⟩
   refine LI.congr (l.2 d m i q) λg ak _=>?_
   unfold dn
   rw[yu,yw]
   constructor
   .rintro(h|⟨h,_⟩)
    .exact .inl h
    .exact .inr h
   .rintro(h|h)
    .exact .inl h
    .exact .inr ⟨h,V d m (h ▸ ak)⟩) (2 ^ 64) 0 (bE goal goal.length,goal,zf n 0) (by omega) ⟨[],bE goal goal.length,rfl,rfl,ae,λa o=>(w a).2 o,aj,⟨ac,λa L z=>by
    dsimp only
    rw[cd (B:=goal) L (by omega)]
    congr 1
    exact decide_eq_decide.2 (w a).symm⟩,⟨by simp,λd m i q=> .inr ⟨by
    have:=nG hB m
    dsimp only
    rw[dE this.1,zP,if_pos (by omega)],λg _ _ h=>by simp at h⟩⟩⟩ (by omega)
 match ao,aB with
 |.inr b,⟨Q,W,al,am,K⟩=>
  rw[aA,Af,aU]
  refine⟨_,rfl,K.1,?_⟩
  have ha:=W.attr (pri:=priL x.game.Prio) (λa _ o=>al a o) am
  have Z:(λa=>a∈Q)=In b.2.1:=by
   funext a
   apply propext
   constructor
   .intro c
    obtain⟨L,z⟩:=nG hB (W.mem a c)
    unfold In;rw[K.2 a L z];simp[c]
   .intro c
    have y:=bu c
    unfold In at c
    rw[K.2 a y.1 (by omega)]at c
    simpa using c
  rw[← Z];exact ha
end
end Go.Proofs.YtgbippnfaoedmaaGreatDoor
namespace Go.Proofs.YtgbippnfaoedmaaGreatDoor.Par
section
open Classical
variable {G:Gm}{X Y:Int->Prop}{p:Bool}{S S' A A2 W W2 D:Int->Prop}
theorem IsAttr.congrS (h:IsAttr G X p S A) (e:∀a,X a->(S a↔S' a)):IsAttr G X p S' A:=by
 obtain⟨i,f⟩:=h.rank
 refine⟨h.sub,λa d g=>h.base a d ((e a d).2 g),⟨i,λa c=>?_⟩,h.mine,h.yours⟩
 rcases f a c with b|b
 .exact .inl ((e a (h.sub a c)).1 b)
 .exact .inr b
structure Red (G:Gm) (X Y:Int->Prop) (p:Bool):Prop where
 sub:∀v,Y v->X v
 mine:∀D,Dom G Y p D->Dom G X p D
 yours:∀D,Dom G Y (!p) D->Dom G X (!p) (λv=>Mn X Y v\/D v)
theorem Red.refl:Red G X X p:=⟨λ_ h=>h,λ_ h=>h,λD h=>h.congr λa=>⟨.inr,λh=>h.resolve_left λh=>h.2 h.1⟩⟩
theorem Red.step (h:Red G X Y p) (i:IsAttr G Y p S A) (k:Sol G (Mn Y A) p W) (c:IsAttr G Y (!p) (Mn (Mn Y A) W) A2):Red G X (Mn Y A2) p:=by
 have j:Dom G Y (!p) (Mn (Mn Y A) W):=Dom.lift i k.yours
 refine⟨λb l=>h.sub b l.1,λD f=>h.mine D ?_,λD f=>(h.yours _ (Dom.grow j c f)).congr λb=>?_⟩
 .have:=Dom.lift (p:= !p) (D:=D) c (by rwa [Bool.not_not])
  rwa [Bool.not_not]at this
 .constructor
  .rintro(⟨d,e⟩|a|a)
   .exact .inl ⟨d,λa=>e a.1⟩
   .exact .inl ⟨h.sub b (c.sub b a),λm=>m.2 a⟩
   .exact .inr a
  .rintro(⟨d,e⟩|a)
   .by_cases g:Y b
    .by_cases ha:A2 b
     .exact .inr (.inl ha)
     .exact absurd ⟨g,ha⟩ e
    .exact .inl ⟨d,g⟩
   .exact .inr (.inr a)
theorem Red.sol (h:Red G X Y p) (b:Sol G Y p W):Sol G X p W:=⟨λa g=>h.sub a (b.sub a g),h.mine W b.mine,(h.yours _ b.yours).congr λa=>by
 constructor
 .rintro(⟨d,e⟩|c)
  .exact⟨d,λc=>e (b.sub a c)⟩
  .exact⟨h.sub a c.1,c.2⟩
 .rintro⟨d,e⟩
  by_cases f:Y a
  .exact .inr ⟨f,e⟩
  .exact .inl ⟨d,f⟩⟩
theorem Sol.all (h:Dom G Y p Y):Sol G Y p Y:=⟨λ_ h=>h,h,Dom.empty.congr λa=>⟨λh=>h.elim,λh=>h.2 h.1⟩⟩
theorem Sol.none (h:∀a,¬X a):Sol G X p W->∀a,¬W a:=λb a c=>h a (b.sub a c)
theorem Sol.void (h:∀a,¬X a):Sol G X p X:=Sol.all (Dom.empty.congr λa=>⟨λh=>h.elim,λb=>h a b⟩)
theorem Sol.top {d:Int}(f:NoDead G X) (g:∀a,X a->G.pri a<=d) (hp:oddP d=p) (c:IsAttr G X p (λa=>G.pri a=d) A) (b:Sol G (Mn X A) p W) (e:∀a,Mn X A a->W a):Sol G X p X:=
 Sol.all (Dom.top f g hp c (b.mine.congr λa=>⟨b.sub a,e a⟩))
theorem Sol.asP {q:Bool}(h:Sol G X q W) (p:Bool):Sol G X p (λb=>X b/\(W b↔p=q)):=by
 by_cases c:p=q
 .subst c
  exact h.congr λb=>⟨λa=>⟨h.sub b a,⟨λ_=>rfl,λ_=>a⟩⟩,λa=>a.2.2 rfl⟩
 .have:p= !q:=by revert c;cases p <;> cases q <;> simp
  subst this
  exact h.flip.congr λb=>⟨λa=>⟨a.1,⟨λd=>absurd d a.2,λe=>absurd e c⟩⟩,λa=>⟨a.1,λd=>c (a.2.1 d)⟩⟩
end
end Go.Proofs.YtgbippnfaoedmaaGreatDoor.Par
namespace Go.Proofs.YtgbippnfaoedmaaGreatDoor
open Go Go.Wk Go.Proofs
theorem fR {P:VI}{v:Int}(a:0<=v) (b:v<P.length):idx P v=some (priL P v):=by
 obtain⟨d,c⟩:=bg (xs:=P) a b
 unfold priL;rw[c];rfl
def PriOk (P:VI):Prop:=∀b a,idx P b=some a->0<=a/\a<=40
theorem jO {d:Int}(h:0<=d):Int.tmod d 2=b2i (Par.oddP d):=by
 rw[Int.tmod_eq_emod_of_nonneg h]
 unfold Par.oddP b2i
 by_cases a:d % 2=1
 .simp[a]
 .simp[a];omega
theorem lM (p:Bool):(b2i p==0)= !p:=by cases p <;> rfl
theorem uu (p:Bool):(b2i p==1)=p:=by cases p <;> rfl
theorem kJ (p q:Bool):(b2i p==b2i q)=(p==q):=by cases p <;> cases q <;> rfl
theorem mG (p:Bool):zr .i64 (1-b2i p)=b2i (!p):=by cases p <;> decide
theorem pE {A B:VB}{n:Nat}(b:A.length=n) (hB:B.length=n) (j:n<=256):∃R,jJ A B=some R/\R.length=n/\∀a,In R a↔In A a/\¬In B a:=by
 unfold jJ
 rw[b,bL (by omega) rfl,Af]
 obtain⟨R,c,d,e⟩:=fillB (f:=g7 A B) (λa=>In A a/\¬In B a) n (s0:=zf n false) (by simp) (λl m i k=>by
  unfold g7
  rw[cd (B:=A) (by omega) (by omega),Af,cd (B:=B) (by omega) (by omega),Af,andE,Af]
  congr 1
  funext _
  congr 2
  rw[zE];simp) (λa g=>ii b g.1)
 rw[c,Af,aU]
 exact⟨R,rfl,d,e⟩
section
variable {x:l7Game}{n:Nat}(wf:WfS x n) (hp:PriOk x.prio)
include wf hp
theorem wR {B:VB}(hB:B.length=n):∃j:Int,my x B=some j/\j<=40/\(∀a,In B a->priL x.prio a<=j)/\((j= -1/\∀a,¬In B a)\/(0<=j/\∃a,In B a/\priL x.prio a=j)):=by
 have y:=wf.lp
 obtain⟨e,s,t,u,v⟩:=ba (f:=iQ x B) (λd (e:Int)=>e<=40/\(∀a,a<(d:Int)->In B a->priL x.prio a<=e)/\((e= -1/\∀a,a<(d:Int)->¬In B a)\/(0<=e/\∃a,In B a/\priL x.prio a=e))) B.length (s:=(-1:Int)) ⟨by omega,λa c g=>by
  have:=ii hB g;omega,.inl ⟨rfl,λa c g=>by have:=ii hB g;omega⟩⟩ (λd e w ⟨o,k,p⟩=>by
  rw[hB]at w
  unfold iQ
  have m:=fR (P:=x.prio) (v:=(d:Int)) (by omega) (by omega)
  obtain⟨q,r⟩:=hp _ _ m
  rw[cd (B:=B) (by omega) (by omega),Af,m]
  by_cases g:In B (d:Int)
  .simp only[g,decide_true,cond_true,Af]
   unfold nS
   by_cases l:priL x.prio (d:Int)<e
   .simp only[l,decide_true,cond_true,Af]
    refine⟨_,rfl,o,λa c i=>?_,?_⟩
    .by_cases b:a=(d:Int)
     .subst b;omega
     .exact k a (by omega) i
    .rcases p with ⟨b,_⟩|h
     .omega
     .exact .inr h
   .simp only[l,decide_false,cond_false,Af]
    refine⟨_,rfl,r,λa c i=>?_,.inr ⟨q,(d:Int),g,rfl⟩⟩
    by_cases b:a=(d:Int)
    .subst b;omega
    .have:=k a (by omega) i;omega
  .simp only[g,decide_false,cond_false,Af]
   refine⟨_,rfl,o,λa c i=>?_,?_⟩
   .by_cases b:a=(d:Int)
    .subst b;exact absurd i g
    .exact k a (by omega) i
   .rcases p with ⟨b,h⟩|h
    .refine .inl ⟨b,λa c i=>?_⟩
     by_cases b:a=(d:Int)
     .subst b;exact g i
     .exact h a (by omega) i
    .exact .inr h)
 unfold my
 rw[s,Af,aU]
 refine⟨e,rfl,t,λa c=>u a (by have:=ii hB c;omega) c,?_⟩
 rcases v with ⟨b,h⟩|h
 .exact .inl ⟨b,λa c=>h a (by have:=ii hB c;omega) c⟩
 .exact .inr h
omit wf hp in
theorem xR {g e:VB}{d:Int}{p:Bool}(C:Int.tmod d 2=b2i p) (F:g.length=n) (H:e.length=n):∃L k,cntM (gq d g e) n 0 (false,zf n false)=some (.inr (k,L))/\L.length=n/\(∀c,In L c↔In g c/\(In e c↔p=true))/\(k=true↔∃c,In L c):=by
 let o:Nat->Bool:=λa=>decide (In g (a:Int)/\(In e (a:Int)↔p=true))
 obtain⟨i,A,s,t,w⟩:=ba (f:=gq d g e) (λa (i:Bool×VB)=>i.2.length=n/\(∀b:Nat,b<a->idx i.2 (b:Int)=some (o b))/\(i.1=true↔∃b:Nat,b<a/\o b=true)) n (s:=(false,zf n false)) ⟨by simp,λb l=>absurd l (Nat.not_lt_zero b),by simp⟩ (λa i j ⟨G,x,y⟩=>by
  obtain⟨k,L⟩:=i
  dsimp only at G x y
  obtain⟨K,E⟩:=bg (xs:=L) (i:=(a:Int)) (by omega) (by omega)
  obtain⟨L',v,I⟩:=bj (xs:=L) (i:=(a:Int)) (o a) (by omega) (by omega)
  have q:(decide (In g (a:Int))&&(decide (In e (a:Int)) != !p))=o a:=by
   show _=decide (In g (a:Int)/\(In e (a:Int)↔p=true))
   rw[zE]
   cases p <;> simp
  have D:idx L' (a:Int)=some (o a):=by rw[bp v,if_pos rfl]
  unfold gq
  dsimp only
  rw[cd (B:=g) (by omega) (by omega),Af,cd (B:=e) (by omega) (by omega),Af,andE,Af,C,lM,q,E,Af,v,Af,D,Af,orE,Af]
  refine⟨_,rfl,by dsimp only;omega,λb l=>?_,?_⟩
  .dsimp only
   rw[bp v]
   by_cases r:(b:Int)=(a:Int)
   .have:b=a:=by omega
    subst this
    rw[if_pos rfl]
   .rw[if_neg r];exact x b (by omega)
  .dsimp only
   rw[zH,y]
   constructor
   .rintro(⟨b,l,h⟩|h)
    .exact⟨b,by omega,h⟩
    .exact⟨a,by omega,h⟩
   .rintro⟨b,l,h⟩
    by_cases r:b=a
    .subst r;exact .inr h
    .exact .inl ⟨b,by omega,h⟩)
 obtain⟨k,L⟩:=i
 dsimp only at s t w
 have u:∀c,In L c↔In g c/\(In e c↔p=true):=λc=>by
  constructor
  .intro h
   obtain⟨m,z⟩:=bu h
   obtain⟨a,j⟩:=bA m
   subst j
   have:=t a (by omega)
   unfold In at h
   rw[h]at this
   exact of_decide_eq_true (zt this).symm
  .intro h
   obtain⟨m,z⟩:=ii F h.1
   obtain⟨a,j⟩:=bA m
   subst j
   unfold In
   rw[t a (by omega)]
   congr 1
   exact decide_eq_true h
 refine⟨L,k,A,s,u,?_⟩
 rw[w]
 constructor
 .rintro⟨b,l,h⟩
  exact⟨(b:Int),(u _).2 (of_decide_eq_true h)⟩
 .rintro⟨c,q⟩
  obtain⟨m,z⟩:=ii s q
  obtain⟨a,j⟩:=bA m
  subst j
  exact⟨a,by omega,decide_eq_true ((u _).1 q)⟩
theorem wS:∀(k:Nat) (B:VB) (f:Nat),B.length=n->Par.NoDead (gS x) (In B)->cnt B<=k->k<f->∃R,jf f x B=some R/\R.length=n/\Par.Sol (gS x) (In B) false (In R):=by
 have ab:=wf.n256
 intro k
 induction k with
 |zero=>
  intro B f hB i aH aG
  obtain⟨f,rfl⟩:∃C,f=C+1:=⟨f-1,by omega⟩
  show ∃R,gr (jf f) x B=some R/\_
  unfold gr
  obtain⟨d,y,aQ,am,O⟩:=wR wf hp hB
  have e:=nZ (B:=B) (by omega)
  rcases O with ⟨z,_⟩|⟨_,a,b,_⟩
  .subst z
   rw[y,Af,hB,bL (by omega) rfl,Af]
   refine⟨_,rfl,by simp,(Par.Sol.void e).congr λa=>⟨λh=>absurd h (e a),λh=>?_⟩⟩
   have G:=bu h
   unfold In at h
   rw[dE G.1,zP]at h
   split at h <;> simp at h
  .exact absurd b (e a)
 |succ k af=>
  intro B f hB i aH aG
  obtain⟨f,rfl⟩:∃C,f=C+1:=⟨f-1,by omega⟩
  show ∃R,gr (jf f) x B=some R/\_
  unfold gr
  obtain⟨d,y,aQ,am,O⟩:=wR wf hp hB
  rcases O with ⟨z,e⟩|⟨aF,Q,H,aJ⟩
  .subst z
   rw[y,Af,hB,bL (by omega) rfl,Af]
   refine⟨_,rfl,by simp,(Par.Sol.void e).congr λa=>⟨λh=>absurd h (e a),λh=>?_⟩⟩
   have G:=bu h
   unfold In at h
   rw[dE G.1,zP]at h
   split at h <;> simp at h
  .have aI:decide (d<0)=false:=by simp;omega
   have l:=jO aF
   generalize hpe:Par.oddP d=p at l
   rw[y,Af,hB,bL (by omega) rfl,Af]
   simp only[aI,cond_false,Af]
   obtain⟨goal,ay,az,W⟩:=fillB (f:=iR x B d) (λa=>In B a/\priL x.prio a=d) n (s0:=zf n false) (by simp) (λag al aa ac=>by
    unfold iR
    rw[cd (B:=B) (by omega) (by omega),Af,fR (P:=x.prio) (by omega) (by rw[wf.lp];omega),Af,andE,Af]
    congr 1
    funext _
    congr 2
    rw[zE];simp) (λa b=>ii hB b.1)
   rw[ay,Af,aU,l]
   obtain⟨A,an,ao,S⟩:=vk wf hB az p i
   have D:Par.IsAttr (gS x) (In B) p (λa=>(gS x).pri a=d) (In A):=S.congrS λa b=>by rw[W];exact⟨λh=>h.2,λh=>⟨b,h⟩⟩
   obtain⟨c,aP,ak,w⟩:=pE hB ao ab
   have F:∀a,Par.Mn (In B) (In A) a↔In c a:=λa=>(w a).symm
   have t:Par.Mn (In B) (In A)=In c:=funext λa=>propext (F a)
   have aB:Par.NoDead (gS x) (In c):=t ▸ i.less D
   have aR:cnt c<cnt B:=nY (λa b=>((w a).1 b).1) H λh=>((w Q).1 h).2 (S.base Q H ((W Q).2 ⟨H,aJ⟩))
   obtain⟨I,aK,aL,aM⟩:=af c f ak aB (by omega) (by omega)
   obtain⟨L,ap,aN,aO,ai,aj⟩:=xR l ak aL
   simp only[an,Af,aP,aK,aN,aU]
   have Y:=aM.asP p
   have X:∀a,In L a↔Par.Mn (In c) (λa=>In c a/\(In I a↔p=false)) a:=λa=>by
    rw[ai]
    unfold Par.Mn
    by_cases u:In c a <;> by_cases v:In I a <;> cases p <;> simp[u,v]
   have ax:Par.Mn (In c) (λa=>In c a/\(In I a↔p=false))=In L:=funext λa=>propext (X a).symm
   cases Z:ap with
   |false=>
    simp only[zF,cond_true]
    have e:∀a,¬In L a:=λa b=>by
     have:=aj.2 ⟨a,b⟩
     rw[Z]at this;cases this
    obtain⟨R,K,M,N⟩:=fillB (f:=iS B d) (λa=>In B a/\p=false) n (s0:=zf n false) (by simp) (λag al aa ac=>by
     unfold iS
     rw[cd (B:=B) (by omega) (by omega),Af,andE,Af,l,lM]
     congr 1
     funext _
     congr 2
     rw[zE];simp) (λa b=>ii hB b.1)
    rw[K,Af,aU]
    refine⟨R,rfl,M,?_⟩
    have E:Par.Sol (gS x) (In B) p (In B):=Par.Sol.top i am hpe D (t.symm ▸ Y) λa b=>by
     have b:=(F a).1 b
     apply zJ
     intro aE
     exact e a ((X a).2 ⟨b,λh=>aE ⟨(F a).2 b,h.2⟩⟩)
    refine(E.asP false).congr λa=>?_
    rw[N]
    constructor
    .rintro⟨g,m⟩;exact⟨g,(m.1 g).symm⟩
    .rintro⟨g,m⟩;exact⟨g,λ_=>m.symm,λ_=>g⟩
   |true=>
    simp only[zG,cond_false]
    obtain⟨q,ad⟩:=aj.1 Z
    obtain⟨A2,aq,T,r⟩:=vk wf hB aO (!p) i
    obtain⟨o,ar,au,s⟩:=pE hB T ab
    have V:Par.Mn (In B) (In A2)=In o:=funext λa=>propext (s a).symm
    have aC:Par.NoDead (gS x) (In o):=V ▸ i.less r
    have ae:In B q:=((w q).1 ((ai q).1 ad).1).1
    have aS:cnt o<cnt B:=nY (λa b=>((s a).1 b).1) ae λh=>((s q).1 h).2 (r.base q ae ad)
    obtain⟨j,av,aw,U⟩:=af o f au aC (by omega) (by omega)
    rw[mG]
    simp only[aq,Af,ar,av]
    obtain⟨R,K,M,N⟩:=fillB (f:=iT d A2 j) (λa=>In j a\/(In A2 a/\p=true)) n (s0:=zf n false) (by simp) (λag al aa ac=>by
     unfold iT
     rw[cd (B:=j) (by omega) (by omega),Af,cd (B:=A2) (by omega) (by omega),Af,andE,Af,orE,Af,l,uu]
     congr 1
     funext _
     congr 2
     rw[zE];simp) (λa b=>by
      rcases b with h|h
      .exact ii aw h
      .exact ii T h.1)
    rw[K,Af,aU]
    refine⟨R,rfl,M,?_⟩
    have aD:Par.Red (gS x) (In B) (Par.Mn (In B) (In A2)) p:=Par.Red.refl.step D (t.symm ▸ Y) (by rw[t,ax];exact r)
    have E:=aD.sol (V.symm ▸ U.asP p)
    refine(E.asP false).congr λa=>?_
    rw[N]
    have g:In j a->In o a:=U.sub a
    have m:In A2 a->In B a:=r.sub a
    have ah:=s a
    by_cases u:In B a <;> by_cases v:In A2 a <;> by_cases aA:In j a <;> cases aT:p <;> simp[u,v]at g m ah <;> simp[u,v,aA,ah] <;> simp_all
end
theorem n6 {B:VB}:∃g,bz B true=some g/\(g=true↔∃a,In B a):=by
 unfold bz ck
 obtain⟨n,i,c⟩:=lP (f:=bG B true) (λd (_:Unit)=>∀a,a<(d:Int)->¬In B a) (λk=>0<=k/\∃a,In B a) (λ_=>False) B.length (s:=()) (λa b e=>by have:=bu e;omega) (λd o p e=>by
  unfold bG
  rw[cd (B:=B) (by omega) (by omega),Af]
  by_cases h:In B (d:Int)
  .simp only[h,decide_true,BEq.rfl,cond_true]
   exact⟨_,rfl,by omega,_,h⟩
  .have:(true==decide (In B (d:Int)))=false:=by simp[h]
   simp only[this,cond_false]
   refine⟨_,rfl,λa b j=>?_⟩
   by_cases l:a=(d:Int)
   .subst l;exact h j
   .exact e a (by omega) j)
 match n,c with
 |.inl k,⟨m,b⟩=>
  rw[i,Af]
  exact⟨_,rfl,λ_=>b,λ_=>decide_eq_true m⟩
 |.inr _,c=>
  have c:=c.resolve_right id
  rw[i,Af,aU]
  refine⟨_,rfl,λh=>absurd h (by decide),λ⟨a,b⟩=>absurd b (c a (by have:=bu b;omega))⟩
section
variable {x:solver}{n:Nat}(wf:WfI x n) (hp:PriOk x.game.Prio)
include wf hp
theorem xW {B:VB}(hB:B.length=n){w:Int}(y:In B w):∃e:Int,ip x.game (bE B B.length)=some e/\0<=e/\(∀a,In B a->priL x.game.Prio a<=e)/\∃a,In B a/\priL x.game.Prio a=e:=by
 have D:=wf.lp
 obtain⟨c,r,j,s⟩:=ba (f:=eJ x.game (bE B B.length)) (λd (c:Int)=>(∀a∈(bE B B.length).take d,priL x.game.Prio a<=c)/\((c= -1/\d=0)\/(0<=c/\∃a,In B a/\priL x.game.Prio a=c))) (bE B B.length).length (s:=(-1:Int)) ⟨λa b=>by simp at b,.inl ⟨rfl,rfl⟩⟩ (λd c v ⟨z,A⟩=>by
  have g:(bE B B.length)[d]? =some (bE B B.length)[d]:=nx v
  generalize(bE B B.length)[d]=u at g
  have k:=bF.1 (ze g)
  obtain⟨E,F⟩:=ii hB k
  have o:=fR (P:=x.game.Prio) (v:=u) (by omega) (by omega)
  obtain⟨p,C⟩:=hp _ _ o
  unfold eJ
  rw[aS,g,Af,o,Af,bi g]
  refine⟨_,rfl,λa b=>?_,.inr ?_⟩
  .rcases yu.1 b with b|b
   .have:=z a b
    split <;> omega
   .rw[yw]at b
    subst b
    split <;> omega
  .by_cases l:c<priL x.game.Prio u
   .rw[if_pos l];exact⟨p,u,k,rfl⟩
   .rw[if_neg l]
    rcases A with ⟨i,_⟩|h
    .omega
    .exact h)
 unfold ip
 rw[r,Af,aU]
 rw[Ac]at j
 have m:=bF.2 y
 rcases s with ⟨_,i⟩|⟨q,t⟩
 .rw[zQ]at i
  rw[i]at m
  cases m
 .exact⟨c,rfl,q,λa b=>j a (bF.2 b),t⟩
theorem xX:∀(k:Nat) (B:VB) (f:Nat),B.length=n->Par.NoDead (gI x.game) (In B)->cnt B<=k->k<f->∃R d,ch f x B=some (R,b2i d)/\R.length=n/\Par.Sol (gI x.game) (In B) d (In R):=by
 have I:=wf.n256
 intro k
 induction k with
 |zero=>
  intro B f hB Z aE aD
  obtain⟨f,rfl⟩:∃z,f=z+1:=⟨f-1,by omega⟩
  show ∃R d,cr (ch f) x B=some (R,b2i d)/\_
  unfold cr
  have i:cnt B=0:=by omega
  have q:=nZ i
  rw[jD (by omega),Af]
  have g:((bE B B.length).length:Int)=0:=by
   unfold cnt at i;omega
  rw[g]
  exact⟨B,false,rfl,hB,Par.Sol.void q⟩
 |succ k aL=>
  intro B f hB Z aE aD
  obtain⟨f,rfl⟩:∃z,f=z+1:=⟨f-1,by omega⟩
  show ∃R d,cr (ch f) x B=some (R,b2i d)/\_
  unfold cr
  by_cases i:cnt B=0
  .have q:=nZ i
   rw[jD (by omega),Af]
   have g:((bE B B.length).length:Int)=0:=by
    unfold cnt at i;omega
   rw[g]
   exact⟨B,false,rfl,hB,Par.Sol.void q⟩
  .have K:∃aj,In B aj:=by
    apply zJ
    intro H
    apply i
    unfold cnt
    rw[zQ]
    cases aG:bE B B.length with
    |nil=>rfl
    |cons a vs=>exact absurd ⟨a,bF.1 (by rw[aG];exact zU ..)⟩ H
   obtain⟨aj,K⟩:=K
   obtain⟨o,aV,aC,aW,w,aK,aJ⟩:=xW wf hp hB K
   have aH:((((bE B B.length).length:Int))==0)=false:=by
    unfold cnt at i
    have:((bE B B.length).length:Int)≠0:=by omega
    simpa using this
   have ad:=jO aC
   generalize hpe:Par.oddP o=p at ad
   rw[jD (by omega),Af,aH,cond_false,aV,Af,appL (by rw[zS];omega) rfl,Af,List.nil_append]
   obtain⟨aR,aX,m⟩:=bI (f:=dg (ch f) x B o) (λO (c:VB)=>c.length=n/\Par.Red (gI x.game) (In B) (In c) p/\Par.NoDead (gI x.game) (In c)/\(cnt c<cnt B\/∀a,In B a->In c a)/\cnt c+O<=cnt B)
    (λah=>∃R,ah=(R,b2i p)/\R.length=n/\Par.Sol (gI x.game) (In B) p (In R)) (λ_=>False) (cnt B) (λO c ⟨l,U,s,aS,a4⟩=>by
    unfold dg
    rw[hB,bL (by omega) rfl,Af]
    obtain⟨goal,ax,ay,C⟩:=fillB (f:=dh x o c) (λa=>In c a/\priL x.game.Prio a=o) n (s0:=zf n false) (by simp) (λO a5 a2 a3=>by
     unfold dh
     rw[cd (B:=c) (by omega) (by omega),Af,fR (P:=x.game.Prio) (by omega) (by rw[wf.lp];omega),Af,andE,Af]
     congr 1
     funext _
     congr 2
     rw[zE];simp) (λa b=>ii l b.1)
    rw[List.length_replicate,ax,Af,aU,ad]
    obtain⟨A,ak,al,V⟩:=uF wf l ay p s λa b=>((C a).1 b).1
    have F:Par.IsAttr (gI x.game) (In c) p (λa=>(gI x.game).pri a=o) (In A):=V.congrS λa b=>by rw[C];exact⟨λh=>h.2,λh=>⟨b,h⟩⟩
    obtain⟨e,aT,ai,t⟩:=j6 l al I
    have ac:∀a,Par.Mn (In c) (In A) a↔In e a:=λa=>(t a).symm
    have u:Par.Mn (In c) (In A)=In e:=funext λa=>propext (ac a)
    have az:Par.NoDead (gI x.game) (In e):=u ▸ s.less F
    have a1:cnt e<=cnt c:=vL λa b=>((t a).1 b).1
    have aZ:cnt e<cnt B:=by
     rcases aS with h|h
     .omega
     .have N:=h w aK
      have:=nY (λa b=>((t a).1 b).1) N λh=>((t w).1 h).2 (V.base w N ((C w).2 ⟨N,aJ⟩))
      omega
    obtain⟨W,d,aP,ae,af⟩:=aL e f ai az (by omega) (by omega)
    simp only[ak,Af,aT,aP,kJ]
    have ab:=af.asP p
    -- what is lost
    have aF:∃L,(bif d==p then zm (dz e W) λaY=>some (aY:VB) else some W)=some L/\L.length=n/\∀a,In L a↔Par.Mn (In e) (λa=>In e a/\(In W a↔p=d)) a:=by
     by_cases g:d=p
     .subst g
      obtain⟨L,Q,S,r⟩:=j6 ai ae I
      refine⟨L,by rw[Q,show(d==d)=true from by simp];rfl,S,λa=>?_⟩
      rw[r]
      unfold Par.Mn
      by_cases D:In e a <;> by_cases E:In W a <;> simp[D,E]
     .have v:(d==p)=false:=by simpa using g
      refine⟨W,by rw[v];rfl,ae,λa=>?_⟩
      have:=af.sub a
      unfold Par.Mn
      have av:¬p=d:=λh=>g h.symm
      by_cases D:In e a <;> by_cases E:In W a <;> simp[D,E,av]at this ⊢
    obtain⟨L,Q,S,r⟩:=aF
    have aw:Par.Mn (In e) (λa=>In e a/\(In W a↔p=d))=In L:=funext λa=>propext (r a).symm
    obtain⟨am,aq,X⟩:=n6 (B:=L)
    simp only[Q,Af,aq]
    cases v:am with
    |false=>
     simp only[zF,cond_true]
     have q:∀a,¬In L a:=λa b=>by
      have:=X.2 ⟨a,b⟩
      rw[v]at this;cases this
     refine⟨_,rfl,c,rfl,l,U.sol (Par.Sol.top s (λa b=>aW a (U.sub a b)) hpe F (u.symm ▸ ab) λa b=>?_)⟩
     have aI:=(ac a).1 b
     apply zJ
     intro H
     exact q a ((r a).2 ⟨aI,λh=>H ⟨b,h.2⟩⟩)
    |true=>
     simp only[zG,cond_false]
     obtain⟨m,M⟩:=X.1 v
     have G:∀a,In L a->In c a:=λa b=>((t a).1 ((r a).1 b).1).1
     obtain⟨A2,ao,ap,y⟩:=uF wf l S (!p) s G
     obtain⟨j,aQ,ag,T⟩:=j6 l ap I
     have Y:Par.Mn (In c) (In A2)=In j:=funext λa=>propext (T a).symm
     have aA:Par.NoDead (gI x.game) (In j):=Y ▸ s.less y
     have a0:cnt j<cnt c:=nY (λa b=>((T a).1 b).1) (G m M) λh=>((T m).1 h).2 (y.base m (G m M) M)
     have aa:Par.Red (gI x.game) (In B) (In j) p:=by
      have:=U.step F (u.symm ▸ ab) (by rw[u,aw];exact y)
      rwa [Y]at this
     obtain⟨an,ar,au⟩:=n6 (B:=j)
     rw[mG]
     simp only[ao,Af,aQ,ar]
     cases aB:an with
     |false=>
      simp only[zF,cond_true]
      refine⟨_,rfl,j,rfl,ag,aa.sol (Par.Sol.void λa b=>?_)⟩
      have:=au.2 ⟨a,b⟩
      rw[aB]at this;cases this
     |true=>
      simp only[zG,cond_false]
      exact⟨_,rfl,by omega,ag,aa,aA,.inl (by omega),by omega⟩) (2 ^ 64) 0 B (by have:=mI B;omega) ⟨hB,Par.Red.refl,Z,.inr λ_ h=>h,by omega⟩ (by omega)
   match aR,m with
   |.inl ah,⟨R,aM,aN,aO⟩=>
    subst aM
    rw[aX,Af]
    exact⟨R,p,rfl,aN,aO⟩
end
abbrev Asc (xs:VI):Prop:=xs.Pairwise (· < ·)
theorem mF:∀{xs ys:VI},Asc xs->Asc ys->(∀a,a∈xs↔a∈ys)->xs=ys
 | [],[],_,_,_=>rfl
 | [],y::ys,_,_,h=>by have:=(h y).2 (zU ..);cases this
 |x::xs,[],_,_,h=>by have:=(h x).1 (zU ..);cases this
 |x::xs,y::ys,hx,hy,h=>by
  have g:=z7.1 hx
  have i:=z7.1 hy
  have e:x=y:=by
   have b:=(h x).1 (zU ..)
   have c:=(h y).2 (zU ..)
   rcases yv.1 b with b|b
   .exact b
   .rcases yv.1 c with c|c
    .exact c.symm
    .have:=g.1 y c
     have:=i.1 x b
     omega
  subst e
  congr 1
  refine mF g.2 i.2 λa=>?_
  have j:=h a
  rw[yv,yv]at j
  constructor
  .intro d
   have:=g.1 a d
   rcases j.1 (.inr d) with e|f
   .omega
   .exact f
  .intro d
   have:=i.1 a d
   rcases j.2 (.inr d) with e|f
   .omega
   .exact f
theorem ur:∀{xs:VI},(∀(i:Nat) x y,xs[i]? =some x->xs[i+1]? =some y->x<y)->Asc xs
 | [],_=>List.Pairwise.nil
 | [x],_=>by simp
 |x::y::r,h=>by
  have b:=ur (xs:=y::r) (λi c d ha e=>h (i+1) c d ha e)
  have f:=h 0 x y rfl rfl
  refine z7.2 ⟨λg a=>?_,b⟩
  rcases yv.1 a with rfl|a
  .exact f
  .have:=(z7.1 b).1 g a
   omega
theorem kY {n:Int}{xs:VI}:ed n xs=true↔(∀x∈xs,0<=x/\x<n)/\Asc xs:=by
 constructor
 .intro h
  obtain⟨c,d⟩:=j4 h
  refine⟨λx a=>?_,ur d⟩
  obtain⟨b,e⟩:=zW.1 a
  exact c b x e
 .rintro⟨c,d⟩
  unfold ed
  rw[zL]
  rintro⟨x,b⟩ a
  have a:=zY.1 a
  dsimp only at a ⊢
  unfold stepUp
  rw[rx]
  refine⟨kM.2 (c x (ze a)),?_⟩
  by_cases e:0<b
  .have f:=(yo.1 a).1
   have g:xs[b-1]? =some (xs[b-1]'(by omega)):=nx (by omega)
   have:=z8.1 d (b-1) b (by omega) f (by omega)
   rw[(yo.1 a).2]at this
   rw[g]
   simp[this]
  .simp[e]
theorem lL {xs:VI}(h:Asc xs){i j:Nat}{x y:Int}(hi:xs[i]? =some x) (f:xs[j]? =some y) (e:i<j):x<y:=by
 obtain⟨c,a⟩:=yo.1 hi
 obtain⟨d,b⟩:=yo.1 f
 rw[← a,← b]
 exact z8.1 h i j c d e
theorem cH {xs:VI}(h:Asc xs):xs.Nodup:=List.Pairwise.imp (λh a=>by omega) h
def ins (n:Int) (xs:VI):VI:=xs.filter (λx=>decide (x<n))++n::xs.filter (λx=>decide (n<x))
theorem qa {n:Int}{xs:VI}(d:n∉xs) (z:Int):z∈ins n xs↔z=n\/z∈xs:=by
 unfold ins
 simp only[yu,yv,zV,decide_eq_true_eq]
 constructor
 .rintro(⟨h,_⟩|rfl|⟨h,_⟩)
  .exact .inr h
  .exact .inl rfl
  .exact .inr h
 .rintro(rfl|h)
  .exact .inr (.inl rfl)
  .rcases Int.lt_trichotomy z n with c|a|b
   .exact .inl ⟨h,c⟩
   .exact absurd (a ▸ h) d
   .exact .inr (.inr ⟨h,b⟩)
theorem p9 {n:Int}{xs:VI}(h:Asc xs):Asc (ins n xs):=by
 unfold ins
 refine List.pairwise_append.2 ⟨h.filter _,z7.2 ⟨λe b=>?_,h.filter _⟩,λc ha d a=>?_⟩
 .simp only[zV,decide_eq_true_eq]at b;exact b.2
 .simp only[zV,decide_eq_true_eq]at ha
  rcases yv.1 a with rfl|a
  .exact ha.2
  .simp only[zV,decide_eq_true_eq]at a;omega
theorem sA {n:Int}{xs:VI}(a:n∉xs) (h:Asc xs):(ins n xs).length=xs.length+1:=by
 have b:(n::xs).Nodup:=z6.2 ⟨a,cH h⟩
 have c:(ins n xs).Perm (n::xs):=(List.perm_ext_iff_of_nodup (cH (p9 h)) b).2 λd=>by rw[qa a,yv]
 rw[c.length_eq,yr]
theorem vV {n:Int}{xs:VI}(h:Asc xs) (r:n∉xs){k:Nat}(s:k<=xs.length) (m:∀(i:Nat) x,i<k->xs[i]? =some x->x<n) (o:∀x,xs[k]? =some x->n<x):xs.take k++n::xs.drop k=ins n xs:=by
 refine mF ?_ (p9 h) λb=>?_
 .have p:∀b∈xs.take k,b<n:=λb e=>by
   obtain⟨i,a⟩:=zW.1 e
   rw[List.getElem?_take]at a
   split at a
   .rename_i q;exact m i b q a
   .cases a
  have g:∀b∈xs.drop k,n<b:=λb e=>by
   obtain⟨i,a⟩:=zW.1 e
   rw[List.getElem?_drop]at a
   have t:=(yo.1 a).1
   have d:xs[k]? =some (xs[k]'(by omega)):=nx (by omega)
   have:=o _ d
   rcases Nat.eq_zero_or_pos i with f|f
   .subst f
    rw[Nat.add_zero,d]at a
    cases a;exact this
   .have:=lL h d a (by omega)
    omega
  refine List.pairwise_append.2 ⟨h.sublist (Ad ..),z7.2 ⟨g,h.sublist (List.drop_sublist ..)⟩,λj ha l c=>?_⟩
  have:=p j ha
  rcases yv.1 c with rfl|c
  .exact this
  .have:=g l c;omega
 .rw[qa r,yu,yv]
  have:b∈xs↔b∈xs.take k\/b∈xs.drop k:=by rw[← yu,List.take_append_drop]
  rw[this]
  constructor
  .rintro(h|h|h)
   .exact .inr (.inl h)
   .exact .inl h
   .exact .inr (.inr h)
  .rintro(h|h|h)
   .exact .inr (.inl h)
   .exact .inl h
   .exact .inr (.inr h)
end Go.Proofs.YtgbippnfaoedmaaGreatDoor
