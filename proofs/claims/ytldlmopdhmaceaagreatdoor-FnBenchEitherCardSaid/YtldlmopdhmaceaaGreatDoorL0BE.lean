/- Functions on data that the laws speak of beside. By program. -/
import Derived.Test.YtldlmopdhmaceaaGreatDoorLwBE
import Derived.Lib.SlicesCompact
import Derived.Test.YtldlmopdhmaceaaGreatDoorLawBE
set_option linter.unusedVariables false
set_option linter.unusedSimpArgs false
set_option maxRecDepth 100000
open Bool renaming and_eq_true → ra, eq_iff_iff → F6, not_true → F7, true_and → F8
open Classical renaming byContradiction → F9
open Int renaming le_refl → Ga, toNat_natCast → Gb
open Go.IntKind renaming wrap → FW
open List renaming all_eq_true → Gc, filter_cons → Ge, getD_eq_getElem?_getD → bR, getElem?_append_left → Fw, getElem?_eq_getElem → ct, getElem?_eq_some_iff → C7, getElem?_map → FA, getElem?_of_mem → Gf, length_append → C9, length_cons → E1, length_map → Gg, length_nil → Gh, length_take → FE, map_append → FF, mem_append → E4, mem_cons → E5, mem_cons_self → Gi, mem_filter → Gj, mem_iff_getElem? → Gk, mem_map → FH, mem_of_getElem? → FI, mem_singleton → E7, mem_zipIdx_iff_getElem? → Gl, nodup_append → Gq, pairwise_append → Gs, pairwise_cons → Gt, pairwise_iff_getElem → Gu, replicate → FK, take_add_one → Gv, take_append_of_le_length → Gw, take_length → Gx
open Nat renaming le_refl → Fg, not_lt_zero → Gy, zero_add → Fj, zero_le → Gz
open Option renaming bind → FR, bind_some → GA
namespace Go.Proofs.YtldlmopdhmaceaaGreatDoor
open Go Go.Wk Go.Proofs
def oP  (c:Int) (a:VI):Option (VI⊕(VI⊕VI)):=
 FR (appS 8 a ([(-1)]:VI)) λb=>
 some (.inr (.inr (b:VI)))
def uz (p0:Int):Option VI:=
 FR (rng p0) λ_=>
 FR (cntM oP (Int.toNat (p0-0)) 0 ([]:VI)) λa=>
 aft (λb=>some b) (λc=>
  some (c:VI)) a
def wX (p0:VI) (p1:Int) (a:Int) (c:Unit):Option (Bool⊕(Unit⊕Unit)):=
 FR (idx p0 a) λb=>
 bif (b==p1) then
  some (.inl (true:Bool))
 else
  some (.inr (.inr ()))
def AZ (p0:VI) (p1:Int):Option Bool:=
 FR (cntM (wX p0 p1) p0.length 0 ()) λa=>
 aft (λb=>some b) (λc=>
  some (false:Bool)) a
def nQ (p0:Parity) (p1:VI) (a:Int) (g:Unit):Option (Bool⊕(Unit⊕Unit)):=
 FR (idx p1 a) λc=>
 FR (bif (c !=(-1)) then
 FR (idx p1 a) λe=>
 FR (idx p0.Arena.Next a) λd=>
 FR (AZ d e) λf=>
 some (!f)
 else
 some false) λb=>
 bif b then
  some (.inl (false:Bool))
 else
  some (.inr (.inr ()))
def r7 (p0:Parity) (p1:VI):Option Bool:=
 bif ((p1.length:Int) !=(p0.Prio.length:Int)) then
  some (false:Bool)
 else
  FR (cntM (nQ p0 p1) p1.length 0 ()) λa=>
  aft (λb=>some b) (λc=>
   some (true:Bool)) a
def oG (p0:Parity) (p1:VI) (a:Int) (c:VV):Option ((Parity×Bool)⊕(VV⊕VV)):=
 FR (idx p0.Arena.Next a) λd=>
 FR (eO d) λe=>
 FR (idx p1 a) λf=>
 FR (bif decide (0<=f) then
  FR (idx p1 a) λg=>
  some (([g]:VI):VI)
 else
  some (e:VI)) λb=>
 FR (appS 24 c ([b]:VV)) λi=>
 some (.inr (.inr (i:VV)))
def uo (p0:Parity) (p1:VI):Option (Parity×Bool):=
 FR (jz p0) λg=>
 FR (bif (!g) then
 some true
 else
 FR (r7 p0 p1) λi=>
 some (!i)) λc=>
 bif c then
  some (((⟨(⟨([]:VI),([]:VV)⟩:Arena),([]:VI)⟩:Parity):Parity),(false:Bool))
 else
  FR (eO p0.Arena.Owner) λa=>
  FR (eO p0.Prio) λb=>
  FR (cntM (oG p0 p1) p1.length 0 (((⟨(⟨a,([]:VV)⟩:Arena),b⟩:Parity).Arena).Next:VV)) λd=>
  aft (λe=>some e) (λf=>
   some (((⟨(⟨((⟨(⟨a,([]:VV)⟩:Arena),b⟩:Parity).Arena).Owner,f⟩:Arena),(⟨(⟨a,([]:VV)⟩:Arena),b⟩:Parity).Prio⟩:Parity):Parity),(true:Bool))) d
def qd  (b:Int) (a:VB):Option (VB⊕(VB⊕VB)):=
 FR (idx a b) λd=>
 FR (setI a b true) λc=>
 some (.inr (.inr (c:VB)))
def wW (p0:Int):Option VB:=
 FR (mkS 1 p0 (false:Bool)) λd=>
 FR (rng p0) λ_=>
 FR (cntM qd (Int.toNat (p0-0)) 0 (d:VB)) λa=>
 aft (λb=>some b) (λc=>
  some (c:VB)) a
def lE (c:VB) (b:Int) (a:VI):Option (VI⊕(VI⊕VI)):=
 FR (idx c b) λd=>
 FR (gx d) λe=>
 FR (appS 8 a ([(FW .i64 (1-e))]:VI)) λf=>
 some (.inr (.inr (f:VI)))
def jn (p0:Parity):Option VI:=
 FR (r6 p0) λf=>
 FR (wW (p0.Prio.length:Int)) λe=>
 FR (kM (2 ^ 64) f e) λa=>
 FR (cntM (lE a) a.length 0 ([]:VI)) λb=>
 aft (λc=>some c) (λd=>
  some (d:VI)) b
def oR (p0:VI) (p1:VI) (a:Int) (d:Unit):Option (Bool⊕(Unit⊕Unit)):=
 FR (idx p0 a) λb=>
 FR (idx p1 a) λc=>
 bif (b !=c) then
  some (.inl (false:Bool))
 else
  some (.inr (.inr ()))
def uB (p0:VI) (p1:VI):Option Bool:=
 bif ((p0.length:Int) !=(p1.length:Int)) then
  some (false:Bool)
 else
  FR (cntM (oR p0 p1) p0.length 0 ()) λa=>
  aft (λb=>some b) (λc=>
   some (true:Bool)) a
def p9 (p0:Parity) (p1:VI):Option Bool:=
 FR (uo p0 p1) λa=>
 FR (bif a.2 then
 FR (jn a.1) λc=>
 FR (jn p0) λd=>
 FR (uB c d) λe=>
 some e
 else
 some false) λb=>
 some (b:Bool)
def mC (p0:VI) (p1:Int) (a:Int) (b:VB):Option (VB⊕(VB⊕VB)):=
 FR (idx p0 a) λc=>
 FR (idx b a) λe=>
 FR (setI b a (c==p1)) λd=>
 some (.inr (.inr (d:VB)))
def jB (p0:VI) (p1:Int):Option VB:=
 FR (mkS 1 (p0.length:Int) (false:Bool)) λd=>
 FR (cntM (mC p0 p1) p0.length 0 (d:VB)) λa=>
 aft (λb=>some b) (λc=>
  some (c:VB)) a
def nP (p1:VB) (p2:Int) (c:VB) (a:Int) (f:Unit):Option (Bool⊕(Unit⊕Unit)):=
 FR (idx p1 a) λd=>
 FR (bif d then
 FR (idx c a) λe=>
 some (e !=(p2==0))
 else
 some false) λb=>
 bif b then
  some (.inl (false:Bool))
 else
  some (.inr (.inr ()))
def rZ (p0:l7Game) (p1:VB) (p2:Int):Option Bool:=
 FR (kM (2 ^ 64) p0 p1) λc=>
 FR (cntM (nP p1 p2 c) p1.length 0 ()) λa=>
 aft (λb=>some b) (λd=>
  some (true:Bool)) a
def oQ (p0:l7Game) (p1:VB) (p2:Int) (a:Int×VI):Option ((Int×VI)⊕((Int×VI)⊕(Int×VI))):=
 FR (idx p0.next p2) λd=>
 bif decide (a.1<(d.length:Int)) then
  FR (idx p0.next p2) λe=>
  FR (idx e a.1) λb=>
  FR (idx p1 b) λf=>
  bif (!f) then
   some (.inr (.inr (((FW .i64 (a.1+1)):Int),(a.2:VI))))
  else
   FR (idx a.2 p2) λj=>
   FR (setI a.2 p2 b) λc=>
   FR (idx p0.owner p2) λg=>
   FR (rZ (⟨p0.owner,p0.prio,p0.next,p0.prev,c⟩:l7Game) p1 g) λi=>
   bif i then
    some (.inl ((b:Int),(c:VI)))
   else
    some (.inr (.inr (((FW .i64 (a.1+1)):Int),(c:VI))))
 else
  some (.inr (.inl ((a.1:Int),(a.2:VI))))
def uA (p0:l7Game) (p1:VB) (p2:Int):Option (Int×VI):=
 FR (ci (oQ p0 p1 p2) (2 ^ 64) ((0:Int),(p0.pick:VI))) λa=>
 aft (λb=>some b) (λc=>
  some (((-1):Int),(c.2:VI))) a
def mA (p0:Parity) (p1:VI) (d:VI) (a:Int) (b:VI):Option ((Answer×Bool)⊕(VI⊕VI)):=
 FR (idx p1 a) λe=>
 FR (bif (e !=(-1)) then
 FR (idx d a) λf=>
 FR (idx p0.Arena.Owner a) λg=>
 some (f !=g)
 else
 some false) λc=>
 bif c then
  some (.inl (((⟨([]:VI),([]:VI)⟩:Answer):Answer),(false:Bool)))
 else
  FR (idx p1 a) λi=>
  FR (idx b a) λk=>
  FR (setI b a i) λj=>
  some (.inr (.inr (j:VI)))
def mB (p0:Parity) (e:VI) (b:l7Game) (i:VB) (j:VB) (a:Int) (c:VI):Option ((Answer×Bool)⊕(VI⊕VI)):=
 FR (idx c a) λk=>
 FR (bif decide (0<=k) then
 some true
 else
 FR (idx e a) λl=>
 FR (idx p0.Arena.Owner a) λm=>
 some (l !=m)) λf=>
 bif f then
  some (.inr (.inr (c:VI)))
 else
  FR (idx e a) λn=>
  FR (bif (n==1) then
   some (j:VB)
  else
   some (i:VB)) λg=>
  FR (uA (⟨b.owner,b.prio,b.next,b.prev,c⟩:l7Game) g a) λd=>
  FR (idx d.2 a) λp=>
  FR (setI d.2 a d.1) λo=>
  some (.inr (.inr (o:VI)))
def qa (p0:Parity) (p1:VI):Option (Answer×Bool):=
 FR (p9 p0 p1) λi=>
 bif (!i) then
  some (((⟨([]:VI),([]:VI)⟩:Answer):Answer),(false:Bool))
 else
  FR (jn p0) λa=>
  FR (r6 p0) λc=>
  FR (cntM (mA p0 p1 a) p1.length 0 (c.pick:VI)) λd=>
  aft (λb=>some b) (λf=>
   FR (jB a 0) λj=>
   FR (jB a 1) λk=>
   FR (cntM (mB p0 a c j k) a.length 0 (f:VI)) λe=>
   aft (λb=>some b) (λg=>
    some (((⟨a,g⟩:Answer):Answer),(true:Bool))) e) d
def ur (p0:Parity):Option (Answer):=
 FR (jz p0) λc=>
 bif (!c) then
  some ((⟨([]:VI),([]:VI)⟩:Answer):Answer)
 else
  FR (uz (p0.Prio.length:Int)) λa=>
  FR (qa p0 a) λb=>
  some (b.1:Answer)
theorem orE (b c:Bool):(bif b then some true else some c)=some (b||c):=by cases b <;> rfl
theorem andE (b c:Bool):(bif b then some c else some false)=some (b&&c):=by cases b <;> rfl
theorem tt {o q e i:Type}{f:Int->e->Option (o⊕(e⊕e))}{g:Int->i->Option (q⊕(i⊕i))}(R:Nat->e->i->Prop) (O:o->q->Prop) (B:e->i->Prop) (N:Nat)
 (n:∀(j:Nat) s t,j<N->R j s t->∃c p,f j s=some c/\g j t=some p/\(match c,p with
  |.inl l,.inl m=>O l m
  |.inr (.inl a),.inr (.inl b)=>B a b
  |.inr (.inr a),.inr (.inr b)=>R (j+1) a b
  |_,_=>False)):
 ∀(k j:Nat) (s:e) (t:i),j+k=N->R j s t->∃c p,cntM f k j s=some c/\cntM g k j t=some p/\(match c,p with
  |.inl l,.inl m=>O l m
  |.inr a,.inr b=>R N a b\/B a b
  |_,_=>False)
 |0,j,s,t,hj,h=>⟨.inr s,.inr t,rfl,rfl,.inl (by rw[← hj];exact h)⟩
 |k+1,j,s,t,hj,h=>by
  obtain⟨c,p,v,w,d⟩:=n j s t (by omega) h
  show ∃c p,FR (f j s) _=some c/\FR (g j t) _=some p/\_
  rw[v,w]
  match c,p,d with
  |.inl l,.inl m,d=>exact⟨.inl l,.inl m,rfl,rfl,d⟩
  |.inr (.inl a),.inr (.inl b),d=>exact⟨.inr a,.inr b,rfl,rfl,.inr d⟩
  |.inr (.inr a),.inr (.inr b),d=>
   obtain⟨x,y,h1,r,u⟩:=tt R O B N n k (j+1) a b (by omega) d
   exact⟨x,y,h1,r,u⟩
theorem vU {u v c d:Type}{f:Int->c->Option (u⊕(c⊕c))}{g:Int->d->Option (v⊕(d⊕d))}(R:Nat->c->d->Prop) (N:Nat){s:c}{t:d}(h0:R 0 s t)
 (r:∀(j:Nat) s t,j<N->R j s t->∃a b,f j s=some (.inr (.inr a))/\g j t=some (.inr (.inr b))/\R (j+1) a b):
 ∃a b,cntM f N 0 s=some (.inr a)/\cntM g N 0 t=some (.inr b)/\R N a b:=by
 obtain⟨q,p,h1,i,e⟩:=tt (f:=f) (g:=g) R (λ_ _=>False) (λ_ _=>False) N (λj s t n o=>by
  obtain⟨a,b,k,l,m⟩:=r j s t n o
  exact⟨_,_,k,l,m⟩) N 0 s t (by omega) h0
 match q,p,e with
 |.inr a,.inr b,e=>exact⟨a,b,h1,i,e.resolve_right id⟩
theorem mD {c α:Type}{f:Int->Unit->Option (c⊕(Unit⊕Unit))}{r:c}(g:Nat->α->Bool){xs:List α}{n:Nat}(d:n=xs.length) (h:∀(i:Nat) x,xs[i]? =some x->f (i:Int) ()=some (if g i x then .inr (.inr ()) else .inl r)):
 cntM f n 0 ()=some (if xs.zipIdx.all (λp=>g p.2 p.1) then .inr () else .inl r):=by
 subst d
 have:=d9 (f:=f) (r:=r) (λp:α×Nat=>g p.2 p.1) (xs:=xs.zipIdx) (n:=xs.length) (by simp) (λi x a=>by
  rw[List.getElem?_zipIdx]at a
  cases b:xs[i]? with
  |none=>rw[b]at a;cases a
  |some e=>
   rw[b]at a
   simp at a
   subst a
   exact h i e b)
 exact this
theorem cZ {i d:Type}{f:d->Option (i⊕(d⊕d))}(I:Nat->d->Prop) (R:i->Prop) (B:d->Prop) (N:Nat)
 (g:∀(j:Nat) s,I j s->∃a,f s=some a/\(match a with
  |.inl e=>R e
  |.inr (.inl b)=>B b
  |.inr (.inr b)=>j<N/\I (j+1) b)):
 ∀(k j:Nat) (s:d),N<k+j->I j s->(0<k)->∃a,ci f k s=some a/\(match a with
  |.inl e=>R e
  |.inr b=>B b)
 |0,_,_,_,_,h=>absurd h (Nat.lt_irrefl 0)
 |k+1,j,s,hk,h,_=>by
  obtain⟨a,m,c⟩:=g j s h
  show ∃a,FR (f s) _=some a/\_
  rw[m]
  match a,c with
  |.inl e,c=>exact⟨.inl e,rfl,c⟩
  |.inr (.inl b),c=>exact⟨.inr b,rfl,c⟩
  |.inr (.inr b),c=>
   obtain⟨n,h1,l⟩:=cZ I R B N g k (j+1) b (by omega) c.2 (by omega)
   exact⟨n,h1,l⟩
theorem sb {q r e i:Type}{f:e->Option (q⊕(e⊕e))}{g:i->Option (r⊕(i⊕i))}(R:e->i->Prop) (m:e->Nat) (O:q->r->Prop) (B:e->i->Prop)
 (o:∀s t,R s t->∃b p,f s=some b/\g t=some p/\(match b,p with
  |.inl j,.inl l=>O j l
  |.inr (.inl a),.inr (.inl c)=>B a c
  |.inr (.inr a),.inr (.inr c)=>R a c/\m a<m s
  |_,_=>False)):
 ∀(k n:Nat) (s:e) (t:i),m s<k->m s<n->R s t->∃b p,ci f k s=some b/\ci g n t=some p/\(match b,p with
  |.inl j,.inl l=>O j l
  |.inr a,.inr c=>B a c
  |_,_=>False)
 |0,_,_,_,h,_,_=>absurd h (Gy _)
 |_,0,_,_,_,h,_=>absurd h (Gy _)
 |k+1,n+1,s,t,hk,hk',h=>by
  obtain⟨b,p,w,x,d⟩:=o s t h
  show ∃b p,FR (f s) _=some b/\FR (g t) _=some p/\_
  rw[w,x]
  match b,p,d with
  |.inl j,.inl l,d=>exact⟨.inl j,.inl l,rfl,rfl,d⟩
  |.inr (.inl a),.inr (.inl c),d=>exact⟨.inr a,.inr c,rfl,rfl,d⟩
  |.inr (.inr a),.inr (.inr c),d=>
   obtain⟨y,z,h1,u,v⟩:=sb R m O B o k n a c (by omega) (by omega) d.1
   exact⟨y,z,h1,u,v⟩
theorem zH {e c:Type}{f:c->Option (e⊕(c⊕c))}(a:Nat->c):∀(n k:Nat) (_:∀b,b<n->f (a b)=some (.inr (.inr (a (b+1))))),ci f (n+k) (a 0)=ci f k (a n):=by
 intro n k
 induction n generalizing a with
 |zero=>intro _;rw[Fj]
 |succ n d=>
  intro h
  rw[show n+1+k=(n+k)+1 from by omega]
  show FR (f (a 0)) _=_
  rw[h 0 (by omega),GA]
  show ci f (n+k) (a 1)=_
  exact d (λb=>a (b+1)) (λb g=>h (b+1) (by omega))
def b2i (b:Bool):Int:=if b then 1 else 0
theorem dD {z:Int}(h:0<=z):∃n:Nat,z=n:=⟨z.toNat,by omega⟩
theorem appL {α:Type}{b:Nat}{xs ys:List α}(h:xs.length+ys.length<=100000000000) (hb:Nat.ble b 1024=true):appS b xs ys=some (xs++ys):=by
 have hb:=Nat.ble_eq.mp hb
 have:(xs.length+ys.length) * b<=100000000000 * 1024:=Nat.mul_le_mul h hb
 unfold appS
 rw[if_pos (by omega)]
theorem app1 {α:Type}{b:Nat}{xs:List α}{x:α}(h:xs.length<=10000000000) (hb:Nat.ble b 1024=true):appS b xs [x]=some (xs++[x]):=appL (by simp only[E1,Gh];omega) hb
theorem g8 {α:Type}{xs:List α}{z:Int}(h0:0<=z) (h1:z<xs.length):∃x,idx xs z=some x/\x∈xs:=by
 have a:z.toNat<xs.length:=by omega
 exact⟨xs[z.toNat],by rw[cN h0];simp[a],by simp⟩
def RowIn (n:Int) (l:Int) (row:VI):Prop:=(row.length:Int)=l/\∀x∈row,0<=x/\x<n
def tab (t:VV) (q i:Int):Int:=(t.getD q.toNat []).getD i.toNat 0
theorem r8 {t:VV}{n l:Int}(h:∀row∈t,RowIn n l row){q i:Int}(c:0<=q) (j:q<t.length) (b:0<=i) (m:i<l):
 ∃row,idx t q=some row/\idx row i=some (tab t q i)/\0<=tab t q i/\tab t q i<n:=by
 obtain⟨row,h1,e⟩:=g8 (xs:=t) c j
 obtain⟨k,f⟩:=h row e
 obtain⟨x,a,g⟩:=g8 (xs:=row) b (by omega)
 have d:tab t q i=x:=by
  unfold tab
  rw[cN c]at h1
  rw[cN b]at a
  rw[bR,bR,h1,Option.getD_some,a,Option.getD_some]
 rw[d]
 exact⟨row,h1,a,f x g⟩
theorem vm {n a α:Type}{f:Int->a->Option (n⊕(a⊕a))}(g:a->α->a) (I:Nat->a->Prop){xs:List α}
 (h:∀(i:Nat) x s,xs[i]? =some x->I i s->f (i:Int) s=some (.inr (.inr (g s x)))/\I (i+1) (g s x)) {s:a} (h0:I 0 s):
 cntM f xs.length 0 s=some (.inr (xs.foldl g s))/\I xs.length (xs.foldl g s):=by
 obtain⟨o,h1,c,e⟩:=cg (f:=f) (λb d=>d=(xs.take b).foldl g s/\I b d) xs.length (s:=s) ⟨by simp,h0⟩ λb d l ⟨m,k⟩=>by
  have j:xs[b]? =some xs[b]:=by simp[l]
  obtain⟨h1,c⟩:=h b _ d j k
  refine⟨_,h1,?_,c⟩
  rw[Gv,j,List.foldl_append,← m]
  rfl
 rw[h1,c,Gx]
 rw[c,Gx]at e
 exact⟨rfl,e⟩
def inR (n x:Int):Bool:=decide (0<=x)&&decide (x<n)
theorem gQ {n x:Int}:inR n x=true↔0<=x/\x<n:=by unfold inR;simp
theorem zS (n x:Int):(decide (0<=x)&&decide (x<=n-1))=inR n x:=by
 unfold inR
 congr 1
 exact decide_eq_decide.2 (by omega)
theorem wF (n x:Int):(decide (x<0)||decide (n<=x))= !(inR n x):=by
 unfold inR
 by_cases h1:x<0 <;> by_cases a:n<=x <;> simp[h1,a] <;> omega
theorem in2 (o:Int):(decide (0<=o)&&decide (o<=1))=inR 2 o:=by
 unfold inR;congr 1;exact decide_eq_decide.2 (by omega)
theorem in41 (o:Int):(decide (0<=o)&&decide (o<=40))=inR 41 o:=by
 unfold inR;congr 1;exact decide_eq_decide.2 (by omega)
theorem rj (a b:Int):decide (a<b)= !decide (b<=a):=by rw[← decide_not];exact decide_eq_decide.2 (by omega)
theorem d8 (a b c:Int):gz a b c=some (decide (b<=a)&&decide (a<=c)):=by
 unfold gz
 by_cases h:b<=a <;> simp[h]
theorem ez:∀(n:Nat) (xs:VI),xs.Nodup->(∀x∈xs,0<=x/\x<n)->xs.length<=n
 |0,[],_,_=>by simp
 |0,x::xs,_,h=>by have:=h x (Gi ..);omega
 |n+1,xs,hn,h=>by
  by_cases b:(n:Int)∈xs
  .have h1:=List.length_erase_of_mem b
   have d:=ez n (xs.erase (n:Int)) (hn.erase _) (λx a=>by
    rw[hn.mem_erase_iff]at a
    have:=h x a.2
    have:=a.1
    omega)
   omega
  .have:=ez n xs hn (λx a=>by
    have e:=h x a
    have:x≠n:=λc=>b (c ▸ a)
    omega)
   omega
def stepUp (n:Int) (xs:VI) (i:Nat) (x:Int):Bool:=inR n x&&(!decide (0<i)||(match xs[i-1]? with | some a=>decide (a<x) | none=>false))
def dj (n:Int) (xs:VI):Bool:=xs.zipIdx.all (λp=>stepUp n xs p.2 p.1)
theorem nS {n:Int}{xs:VI}(h:dj n xs=true):(∀(i:Nat) x,xs[i]? =some x->0<=x/\x<n)/\∀(i:Nat) x a,xs[i]? =some x->xs[i+1]? =some a->x<a:=by
 unfold dj at h
 rw[Gc]at h
 refine⟨λi x b=>?_,λi x a b d=>?_⟩
 .have:=h (x,i) (Gl.2 b)
  unfold stepUp at this
  rw[ra]at this
  exact gQ.1 this.1
 .have:=h (a,i+1) (Gl.2 d)
  unfold stepUp at this
  simp only[Nat.add_sub_cancel,b]at this
  have c:=((ra _ _).mp this).2
  simp at c
  exact c
theorem yx {n:Int}{xs:VI}(h:dj n xs=true):∀(i:Nat) x,xs[i]? =some x->(i:Int)<=x
 |0,x,hx=>by have:=((nS h).1 0 x hx).1;omega
 |i+1,x,hx=>by
  have b:i<xs.length:=by have:=(C7.1 hx).1;omega
  have a:xs[i]? =some xs[i]:=by simp[b]
  have:=yx h i _ a
  have:=(nS h).2 i _ _ a hx
  omega
theorem A4 {n:Int}{xs:VI}(h:dj n xs=true) (h0:0<=n):(xs.length:Int)<=n:=by
 by_cases b:xs.length=0
 .omega
 .have a:xs[xs.length-1]? =some (xs[xs.length-1]'(by omega)):=ct (by omega)
  have:=yx h _ _ a
  have:=((nS h).1 _ _ a).2
  omega
theorem yg {xs:VI}{i:Nat}(hi:i<xs.length) (h:0<i):∃a,idx xs (FW .i64 ((i:Int)-1))=some a/\xs[i-1]? =some a\/1000000000<=i:=by
 by_cases hb:1000000000<=i
 .exact⟨0,.inr hb⟩
 .refine⟨xs[i-1]'(by omega),.inl ⟨?_,ct (by omega)⟩⟩
  rw[wr' (by omega) (by omega),show((i:Int)-1)=((i-1:Nat):Int) from by omega,bT]
  exact ct (by omega)
theorem wR {xs:VI}{n:Int}(h0:0<=n) (h1:n<=1000000000) (l:xs.length<=1000000000):py xs n=some (dj n xs):=by
 unfold py
 rw[mD (f:=kL xs n) (r:=false) (stepUp n xs) (xs:=xs) rfl (λb x d=>by
  have j:=(C7.1 d).1
  unfold kL stepUp
  rw[bT,d]
  simp only[GA,wr' (z:=n-1) (by omega) (by omega),d8,zS]
  cases inR n x with
  |false=>rfl
  |true=>
   by_cases a:0<b
   .obtain⟨c,⟨e,g⟩|k⟩:=yg j a
    .have i:decide (x<=c)= !decide (c<x):=by rw[← decide_not];exact decide_eq_decide.2 (by omega)
     simp only[e,g,show(0:Int)<(b:Int) from by omega,a,decide_true,F7,cond_false,cond_true,GA,i,F8,Bool.false_or]
     cases decide (c<x) <;> rfl
    .omega
   .have:¬(0:Int)<(b:Int):=by omega
    simp[a,this])]
 unfold dj
 cases List.all xs.zipIdx (λp=>stepUp n xs p.2 p.1) <;> rfl
theorem lz {xs:VI}{n:Int}(h0:0<=n) (h1:n<=1000000000) (a:xs.length<=1000000000):nJ xs n=some (dj n xs):=by
 unfold nJ
 rw[wR h0 h1 a]
 by_cases h:(xs.length:Int)<=n
 .simp[h]
 .have:dj n xs=false:=by
   cases hs:dj n xs with
   |false=>rfl
   |true=>exact absurd (A4 hs h0) h
  simp[h,this]
theorem kY {xs:VI}{n:Int}(l:xs.length<=1000000000):lN xs n=some (dj n xs):=by
 unfold lN
 rw[mD (f:=na xs n) (r:=false) (stepUp n xs) (xs:=xs) rfl (λb x d=>by
  have j:=(C7.1 d).1
  unfold na stepUp
  rw[bT,d]
  simp only[GA,orE,wF]
  cases inR n x with
  |false=>rfl
  |true=>
   by_cases a:0<b
   .obtain⟨c,⟨e,g⟩|k⟩:=yg j a
    .have i:decide (x<=c)= !decide (c<x):=by rw[← decide_not];exact decide_eq_decide.2 (by omega)
     simp only[e,g,show(0:Int)<(b:Int) from by omega,a,decide_true,F7,cond_false,cond_true,GA,i,F8,Bool.false_or]
     cases decide (c<x) <;> rfl
    .omega
   .have:¬(0:Int)<(b:Int):=by omega
    simp[a,this])]
 unfold dj
 cases List.all xs.zipIdx (λp=>stepUp n xs p.2 p.1) <;> rfl
abbrev Asc (xs:VI):Prop:=xs.Pairwise (· < ·)
theorem mT:∀{xs ys:VI},Asc xs->Asc ys->(∀a,a∈xs↔a∈ys)->xs=ys
 | [],[],_,_,_=>rfl
 | [],y::ys,_,_,h=>by have:=(h y).2 (Gi ..);cases this
 |x::xs,[],_,_,h=>by have:=(h x).1 (Gi ..);cases this
 |x::xs,y::ys,hx,hy,h=>by
  have f:=Gt.1 hx
  have g:=Gt.1 hy
  have d:x=y:=by
   have h1:=(h x).1 (Gi ..)
   have b:=(h y).2 (Gi ..)
   rcases E5.1 h1 with h1|h1
   .exact h1
   .rcases E5.1 b with b|b
    .exact b.symm
    .have:=f.1 y b
     have:=g.1 x h1
     omega
  subst d
  congr 1
  refine mT f.2 g.2 λa=>?_
  have i:=h a
  rw[E5,E5]at i
  constructor
  .intro c
   have:=f.1 a c
   rcases i.1 (.inr c) with d|e
   .omega
   .exact e
  .intro c
   have:=g.1 a c
   rcases i.2 (.inr c) with d|e
   .omega
   .exact e
theorem Bd:∀{xs:VI},(∀(i:Nat) x y,xs[i]? =some x->xs[i+1]? =some y->x<y)->Asc xs
 | [],_=>List.Pairwise.nil
 | [x],_=>by simp
 |x::y::r,h=>by
  have d:=Bd (xs:=y::r) (λi a b ha hb=>h (i+1) a b ha hb)
  have e:=h 0 x y rfl rfl
  refine Gt.2 ⟨λf c=>?_,d⟩
  rcases E5.1 c with rfl|c
  .exact e
  .have:=(Gt.1 d).1 f c
   omega
theorem fI {n:Int}{xs:VI}:dj n xs=true↔(∀x∈xs,0<=x/\x<n)/\Asc xs:=by
 constructor
 .intro h
  obtain⟨h1,c⟩:=nS h
  refine⟨λx a=>?_,Bd c⟩
  obtain⟨b,d⟩:=Gk.1 a
  exact h1 b x d
 .rintro⟨h1,c⟩
  unfold dj
  rw[Gc]
  rintro⟨x,b⟩ a
  have a:=Gl.1 a
  dsimp only at a ⊢
  unfold stepUp
  rw[ra]
  refine⟨gQ.2 (h1 x (FI a)),?_⟩
  by_cases d:0<b
  .have e:=(C7.1 a).1
   have f:xs[b-1]? =some (xs[b-1]'(by omega)):=ct (by omega)
   have:=Gu.1 c (b-1) b (by omega) e (by omega)
   rw[(C7.1 a).2]at this
   rw[f]
   simp[this]
  .simp[d]
theorem vR {xs:VI}(h:Asc xs){i j:Nat}{x y:Int}(hi:xs[i]? =some x) (e:xs[j]? =some y) (d:i<j):x<y:=by
 obtain⟨h1,a⟩:=C7.1 hi
 obtain⟨c,b⟩:=C7.1 e
 rw[← a,← b]
 exact Gu.1 h i j h1 c d
theorem iz {xs:VI}(h:Asc xs):xs.Nodup:=List.Pairwise.imp (λh a=>by omega) h
theorem uC {xs:VI}(h:xs.Nodup):Asc (xs.mergeSort λx d=>decide (x<=d)):=by
 have h1:(xs.mergeSort λx d=>decide (x<=d)).Pairwise (λa b=>decide (a<=b)=true):=List.pairwise_mergeSort (λa b c h1 e=>by simp only[decide_eq_true_eq]at *;omega) (λa b=>by simp only[Bool.or_eq_true,decide_eq_true_eq];omega) xs
 have e:(xs.mergeSort λx d=>decide (x<=d)).Nodup:=(List.mergeSort_perm xs _).nodup_iff.2 h
 have f:=List.Pairwise.and h1 e
 exact f.imp λ⟨ha,hb⟩=>by
  simp only[decide_eq_true_eq]at ha
  have:∀{a b:Int},a<=b->a≠b->a<b:=λh1 e=>by omega
  exact this ha hb
def ins (n:Int) (xs:VI):VI:=xs.filter (λx=>decide (x<n))++n::xs.filter (λx=>decide (n<x))
theorem ta {n:Int}{xs:VI}(d:n∉xs) (z:Int):z∈ins n xs↔z=n\/z∈xs:=by
 unfold ins
 simp only[E4,E5,Gj,decide_eq_true_eq]
 constructor
 .rintro(⟨h,_⟩|rfl|⟨h,_⟩)
  .exact .inr h
  .exact .inl rfl
  .exact .inr h
 .rintro(rfl|h)
  .exact .inr (.inl rfl)
  .rcases Int.lt_trichotomy z n with c|a|b
   .exact .inl ⟨h,c⟩
   .exact absurd (a ▸ h) d
   .exact .inr (.inr ⟨h,b⟩)
theorem sZ {n:Int}{xs:VI}(h:Asc xs):Asc (ins n xs):=by
 unfold ins
 refine Gs.2 ⟨h.filter _,Gt.2 ⟨λd c=>?_,h.filter _⟩,λa ha b hb=>?_⟩
 .simp only[Gj,decide_eq_true_eq]at c;exact c.2
 .simp only[Gj,decide_eq_true_eq]at ha
  rcases E5.1 hb with rfl|hb
  .exact ha.2
  .simp only[Gj,decide_eq_true_eq]at hb;omega
theorem y4 {n:Int}{xs:VI}(a:n∉xs) (h:Asc xs):(ins n xs).length=xs.length+1:=by
 have h1:(n::xs).Nodup:=List.nodup_cons.2 ⟨a,iz h⟩
 have b:(ins n xs).Perm (n::xs):=(List.perm_ext_iff_of_nodup (iz (sZ h)) h1).2 λc=>by rw[ta a,E5]
 rw[b.length_eq,E1]
theorem zT {n:Int}{xs:VI}(h:Asc xs) (p:n∉xs){k:Nat}(hk:k<=xs.length) (h1:∀(i:Nat) x,i<k->xs[i]? =some x->x<n) (l:∀x,xs[k]? =some x->n<x):xs.take k++n::xs.drop k=ins n xs:=by
 refine mT ?_ (sZ h) λd=>?_
 .have m:∀d∈xs.take k,d<n:=λd f=>by
   obtain⟨i,c⟩:=Gk.1 f
   rw[List.getElem?_take]at c
   split at c
   .rename_i o;exact h1 i d o c
   .cases c
  have j:∀d∈xs.drop k,n<d:=λd f=>by
   obtain⟨i,c⟩:=Gk.1 f
   rw[List.getElem?_drop]at c
   have q:=(C7.1 c).1
   have e:xs[k]? =some (xs[k]'(by omega)):=ct (by omega)
   have:=l _ e
   rcases Nat.eq_zero_or_pos i with g|g
   .subst g
    rw[Nat.add_zero,e]at c
    cases c;exact this
   .have:=vR h e c (by omega)
    omega
  refine Gs.2 ⟨h.sublist (List.take_sublist ..),Gt.2 ⟨j,h.sublist (List.drop_sublist ..)⟩,λa ha b hb=>?_⟩
  have:=m a ha
  rcases E5.1 hb with rfl|hb
  .exact this
  .have:=j b hb;omega
 .rw[ta p,E4,E5]
  have:d∈xs↔d∈xs.take k\/d∈xs.drop k:=by rw[← E4,List.take_append_drop]
  rw[this]
  constructor
  .rintro(h|h|h)
   .exact .inr (.inl h)
   .exact .inl h
   .exact .inr (.inr h)
  .rintro(h|h|h)
   .exact .inr (.inl h)
   .exact .inl h
   .exact .inr (.inr h)
def vertOk (a:Arena) (i:Nat) (row:VI):Bool:=(match a.Owner[i]? with | some b=>inR 2 b | none=>false)&&decide ((1:Int)<=row.length)&&decide ((row.length:Int)<=16)&&dj (a.Owner.length:Int) row
def ef (a:Arena):Bool:=decide (1<=(a.Owner.length:Int))&&decide ((a.Owner.length:Int)<=256)&&((a.Next.length:Int)==(a.Owner.length:Int))&&a.Next.zipIdx.all (λp=>vertOk a p.2 p.1)
def c8 (g:Parity):Bool:=ef g.Arena&&((g.Prio.length:Int)==(g.Arena.Owner.length:Int))&&g.Prio.all (inR 41)
theorem qS (a:Arena):mP a=some (ef a):=by
 unfold mP ef
 rw[d8,GA]
 cases h1:(decide (1<=(a.Owner.length:Int))&&decide ((a.Owner.length:Int)<=256)) with
 |false=>rfl
 |true=>
  simp only[ra,decide_eq_true_eq]at h1
  simp only[F7,cond_false,GA,F8,bne]
  cases i:((a.Next.length:Int)==(a.Owner.length:Int)) with
  |false=>rfl
  |true=>
   have j:a.Owner.length=a.Next.length:=by have:=beq_iff_eq.1 i;omega
   rw[mD (f:=kG a) (r:=false) (vertOk a) (xs:=a.Next) j (λg row e=>by
    have m:=(C7.1 e).1
    obtain⟨b,d⟩:∃b,a.Owner[g]? =some b:=⟨_,ct (by omega)⟩
    have k:vertOk a g row=(inR 2 b&&decide ((1:Int)<=row.length)&&decide ((row.length:Int)<=16)&&dj (a.Owner.length:Int) row):=by unfold vertOk;rw[d]
    rw[k]
    unfold kG
    rw[bT,bT,d,e]
    simp only[GA,d8,in2]
    cases inR 2 b with
    |false=>rfl
    |true=>
     simp only[F7,cond_false,GA,rj,F8]
     cases l:decide ((1:Int)<=row.length) with
     |false=>rfl
     |true=>
      simp only[F7,cond_false,GA,F8]
      cases c:decide ((row.length:Int)<=16) with
      |false=>rfl
      |true=>
       have c:=of_decide_eq_true c
       rw[lz (by omega) (by omega) (by omega)]
       simp only[F7,cond_false,GA,F8]
       cases dj (a.Owner.length:Int) row <;> rfl)]
   simp only[F7,cond_false,GA,F8]
   cases List.all a.Next.zipIdx (λp=>vertOk a p.2 p.1) <;> rfl
theorem qp (a:Arena):mF a=some (ef a):=by
 unfold mF ef
 simp only[orE,GA,rj,bne]
 rw[show(!decide (1<=(a.Owner.length:Int)) || !decide ((a.Owner.length:Int)<=256) || !((a.Next.length:Int)==(a.Owner.length:Int)))= !(decide (1<=(a.Owner.length:Int))&&decide ((a.Owner.length:Int)<=256)&&((a.Next.length:Int)==(a.Owner.length:Int))) from by simp only[Bool.not_and]]
 cases h1:(decide (1<=(a.Owner.length:Int))&&decide ((a.Owner.length:Int)<=256)&&((a.Next.length:Int)==(a.Owner.length:Int))) with
 |false=>rfl
 |true=>
  simp only[ra,decide_eq_true_eq,beq_iff_eq]at h1
  simp only[F7,cond_false,GA,F8]
  rw[mD (f:=km a) (r:=false) (vertOk a) (xs:=a.Next) rfl (λg row e=>by
   have l:=(C7.1 e).1
   obtain⟨b,d⟩:∃b,a.Owner[g]? =some b:=⟨_,ct (by omega)⟩
   have i:vertOk a g row=(inR 2 b&&decide ((1:Int)<=row.length)&&decide ((row.length:Int)<=16)&&dj (a.Owner.length:Int) row):=by unfold vertOk;rw[d]
   rw[i]
   unfold km
   rw[bT,bT,d,e]
   simp only[GA]
   have j:(decide (b<0)||decide (1<b))= !(inR 2 b):=by
    rw[← wF];congr 1
   rw[orE,GA,j]
   cases inR 2 b with
   |false=>rfl
   |true=>
    simp only[F7,cond_false,GA,rj,F8]
    cases k:decide ((1:Int)<=row.length) with
    |false=>rfl
    |true=>
     simp only[F7,cond_false,GA,F8]
     cases c:decide ((row.length:Int)<=16) with
     |false=>rfl
     |true=>
      have c:=of_decide_eq_true c
      rw[kY (by omega)]
      simp only[F7,cond_false,GA,F8]
      cases dj (a.Owner.length:Int) row <;> rfl)]
  simp only[F7,cond_false,GA,F8]
  cases List.all a.Next.zipIdx (λp=>vertOk a p.2 p.1) <;> rfl
theorem mw (g:Parity):jz g=some (c8 g):=by
 unfold jz c8
 rw[qS,GA,orE,GA,bne,← Bool.not_and]
 cases h1:(ef g.Arena&&((g.Prio.length:Int)==(g.Arena.Owner.length:Int))) with
 |false=>rfl
 |true=>
  simp only[F7,cond_false]
  rw[d9 (f:=jR g) (r:=false) (inR 41) (xs:=g.Prio) rfl (λc b a=>by
   unfold jR
   rw[bT,a,GA,d8,GA,in41]
   cases inR 41 b <;> rfl)]
  cases g.Prio.all (inR 41) <;> rfl
theorem uM (g:Parity):kS g=some (c8 g):=by
 unfold kS c8
 rw[qp,GA,orE,GA,bne,← Bool.not_and]
 cases h1:(ef g.Arena&&((g.Prio.length:Int)==(g.Arena.Owner.length:Int))) with
 |false=>rfl
 |true=>
  simp only[F7,cond_false]
  rw[d9 (f:=jI g) (r:=false) (inR 41) (xs:=g.Prio) rfl (λd a c=>by
   unfold jI
   rw[bT,c,GA,orE,GA]
   have b:(decide (a<0)||decide (40<a))= !(inR 41 a):=by
    rw[← wF];congr 1
   rw[b]
   cases inR 41 a <;> rfl)]
  cases g.Prio.all (inR 41) <;> rfl
theorem dZ {g:Parity}(h:c8 g=true):1<=g.Arena.Owner.length/\g.Arena.Owner.length<=256/\g.Arena.Next.length=g.Arena.Owner.length/\g.Prio.length=g.Arena.Owner.length /\
 (∀(i:Nat) row,g.Arena.Next[i]? =some row->1<=row.length/\row.length<=16/\dj (g.Arena.Owner.length:Int) row=true):=by
 simp only[c8,ef,ra,decide_eq_true_eq,beq_iff_eq]at h
 obtain⟨⟨⟨⟨⟨h1,c⟩,d⟩,a⟩,e⟩,f⟩:=h
 refine⟨by omega,by omega,by omega,by omega,λi row b=>?_⟩
 rw[Gc]at a
 have:=a (row,i) (Gl.2 b)
 simp only[vertOk,ra,decide_eq_true_eq]at this
 exact⟨by omega,by omega,this.2⟩
theorem uc {g:Parity}(h:c8 g=true):(∀e∈g.Arena.Owner,inR 2 e=true)/\(∀x∈g.Prio,inR 41 x=true):=by
 have j:=dZ h
 simp only[c8,ef,ra,decide_eq_true_eq,beq_iff_eq]at h
 obtain⟨⟨⟨⟨⟨h1,k⟩,l⟩,b⟩,m⟩,c⟩:=h
 rw[Gc]at b c
 refine⟨λe f=>?_,c⟩
 obtain⟨a,d⟩:=Gk.1 f
 have n:=(C7.1 d).1
 have i:g.Arena.Next[a]? =some (g.Arena.Next[a]'(by omega)):=ct (by omega)
 have:=b (_,a) (Gl.2 i)
 simp only[vertOk,d,ra]at this
 exact this.1.1.1
theorem AU {g:Parity}(h1:1<=g.Arena.Owner.length) (k:g.Arena.Owner.length<=256) (l:g.Arena.Next.length=g.Arena.Owner.length) (m:g.Prio.length=g.Arena.Owner.length) (c:∀row∈g.Arena.Next,1<=row.length/\row.length<=16/\dj (g.Arena.Owner.length:Int) row=true) (d:∀j∈g.Arena.Owner,inR 2 j=true) (e:∀x∈g.Prio,inR 41 x=true):c8 g=true:=by
 simp only[c8,ef,ra,decide_eq_true_eq,beq_iff_eq]
 refine⟨⟨⟨⟨⟨by omega,by omega⟩,by omega⟩,?_⟩,by omega⟩,by rw[Gc];exact e⟩
 rw[Gc]
 rintro⟨row,b⟩ a
 have a:=Gl.1 a
 dsimp only at a ⊢
 have n:=(C7.1 a).1
 obtain⟨o,p,i⟩:=c row (FI a)
 have f:g.Arena.Owner[b]? =some (g.Arena.Owner[b]'(by omega)):=ct (by omega)
 have:=d _ (List.getElem_mem (show b<g.Arena.Owner.length by omega))
 unfold vertOk
 simp only[f,this,i,Bool.and_true,F8,ra,decide_eq_true_eq]
 exact⟨by omega,by omega⟩
def sigOk (p:Sig):Bool:=(decide (1<=p.In)&&decide (p.In<=2))&&(decide (1<=p.Out)&&decide (p.Out<=2))
theorem iw (p:Sig):ma p=some (sigOk p):=by
 unfold ma sigOk
 simp only[d8,GA]
 cases(decide (1<=p.In)&&decide (p.In<=2)) <;> simp
theorem jv (p:Sig):jN p=some (sigOk p):=by
 unfold jN sigOk
 by_cases h1:1<=p.In <;> by_cases a:p.In<=2 <;> by_cases b:1<=p.Out <;> by_cases c:p.Out<=2 <;> simp[h1,a,b,c]
theorem uX (xs:VI){n:Int}(h0: -1000000000000000000<=n) (h1:n<=1000000000000000000):nL xs n=some (xs.all (inR n)):=by
 unfold nL
 have b:=d9 (f:=jT xs n) (r:=false) (inR n) (xs:=xs) rfl (λd a c=>by
  unfold jT
  rw[wr' (by omega) (by omega),bT,c,GA,d8,GA]
  have:(decide (0<=a)&&decide (a<=n-1))=inR n a:=by
   unfold inR
   congr 1
   exact decide_eq_decide.2 (by omega)
  rw[this]
  cases inR n a <;> rfl)
 rw[b,GA]
 cases xs.all (inR n) <;> rfl
theorem nX (xs:VI) (n:Int):gK xs n=some (xs.all (inR n)):=by
 unfold gK
 rw[eA (λx=>decide (x<0)||decide (n<=x)) (λx _=>by
  unfold fS
  by_cases h:x<0 <;> simp[h]),GA]
 congr 1
 rw[List.all_eq_not_any_not]
 congr 2
 funext x
 unfold inR
 by_cases h:x<0 <;> by_cases a:n<=x <;> simp[h,a] <;> omega
def pw (n:Int):Int:=if n=1 then 2 else 4
theorem jU {n:Int}(h:n=1\/n=2):ff n=some (pw n):=by
 unfold ff
 rcases h with rfl|rfl
 .rw[jF (by omega)]
  have:ig (1,1)=some (.inr (.inr (0,2))):=by decide
  rw[this,GA,lU,jF (by omega)]
  rfl
 .rw[jF (by omega)]
  have:ig (2,1)=some (.inr (.inr (1,2))):=by decide
  rw[this,GA,lU,jF (by omega)]
  have:ig (1,2)=some (.inr (.inr (0,4))):=by decide
  rw[this,GA,lU,jF (by omega)]
  rfl
theorem nf {n:Int}(h:n=1\/n=2):nn n=some ()/\FW .i64 (1 * 2 ^ (min (Int.toNat n) (IntKind.bits IntKind.i64)))=pw n:=by
 rcases h with rfl|rfl <;> decide
theorem eQ {p:Sig}(h:sigOk p=true):(p.In=1\/p.In=2)/\(p.Out=1\/p.Out=2):=by
 simp only[sigOk,ra,decide_eq_true_eq]at h
 omega
theorem iD (n:Int):2<=pw n/\pw n<=4:=by unfold pw;split <;> omega
theorem CQ {xs:VI}(h:Asc xs){n:Int}(s:n∉xs) (L:xs.length<=100000):lw xs n=some (ins n xs):=by
 obtain⟨B,D,E⟩:=cZ (f:=iH xs n) (λa (g:Int)=>g=(a:Int)/\a<=xs.length/\∀(b:Nat) x,b<a->xs[b]? =some x->x<n) (λ_=>False) (λg=>∃k:Nat,g=(k:Int)/\k<=xs.length/\(∀(b:Nat) x,b<k->xs[b]? =some x->x<n)/\∀x,xs[k]? =some x->n<x) xs.length (λa g ⟨d,q,j⟩=>by
  subst d
  unfold iH
  by_cases e:(a:Int)<(xs.length:Int)
  .have i:xs[a]? =some (xs[a]'(by omega)):=ct (by omega)
   have r:=List.getElem_mem (show a<xs.length by omega)
   generalize xs[a]'(by omega)=x at i r
   simp only[e,decide_true,cond_true,bT,i,GA]
   by_cases l:x<n
   .simp only[l,decide_true,cond_true]
    refine⟨_,rfl,by omega,by rw[wr' (by omega) (by omega)];omega,by omega,λb o u c=>?_⟩
    by_cases v:b=a
    .subst v;rw[i]at c;cases c;exact l
    .exact j b o (by omega) c
   .simp only[l,decide_false,cond_false]
    refine⟨_,rfl,a,rfl,q,j,λo c=>?_⟩
    rw[i]at c
    cases c
    have:x≠n:=λd=>s (d ▸ r)
    omega
  .simp only[e,decide_false,cond_false,GA]
   exact⟨_,rfl,a,rfl,q,j,λo c=>by have:=(C7.1 c).1;omega⟩)
  (2 ^ 64) 0 0 (by omega) ⟨rfl,by omega,λb x u=>by omega⟩ (by omega)
 match B,E with
 |.inr g,⟨k,d,hk,h1,p⟩=>
  subst d
  unfold lw
  rw[D,GA,bV]
  have hc:(FR (bif decide ((k:Int)<(xs.length:Int)) then FR (idx xs (k:Int)) λm=>some (m==n) else some false) λC=>bif C then some xs else
   FR (subS xs 0 (k:Int)) λF=>FR (eO F) λG=>FR (appS 8 G [n]) λH=>FR (subS xs (k:Int) (xs.length:Int)) λI=>FR (appS 8 H I) λK=>some K)=some (xs.take k++[n]++xs.drop k):=by
   have y:(bif decide ((k:Int)<(xs.length:Int)) then FR (idx xs (k:Int)) λm=>some (m==n) else some false)=some false:=by
    by_cases e:(k:Int)<(xs.length:Int)
    .have t:xs[k]? =some (xs[k]'(by omega)):=ct (by omega)
     have:=p _ t
     have w:(xs[k]'(by omega)==n)=false:=by
      rw[beq_eq_false_iff_ne];omega
     simp only[e,decide_true,cond_true,bT,t,GA,w]
    .simp only[e,decide_false,cond_false]
   have z:subS xs 0 (k:Int)=some (xs.take k):=by
    unfold subS
    rw[if_pos (by omega),Gb];rfl
   have A:subS xs (k:Int) (xs.length:Int)=some (xs.drop k):=by
    unfold subS
    rw[if_pos (by omega),Gb,Gb,Gx]
   have M:(xs.take k).length<=100000:=by rw[FE];omega
   rw[y,GA]
   simp only[cond_false]
   rw[z,GA]
   unfold eO
   rw[appL (by rw[Gh];omega) rfl,GA,GA,List.nil_append,app1 (by omega) rfl,GA,A,GA,appL (by rw[C9,List.length_drop,List.length_singleton];omega) rfl]
   rfl
  rw[hc,List.append_assoc,List.singleton_append,zT h s hk h1 p]
theorem zt {xs:VI}(a:xs.length<=10000000):eO xs=some xs:=by
 unfold eO
 rw[appL (by rw[Gh];omega) rfl];rfl
def pairOk (n:Int) (x:Pair):Bool:=dj n x.Ask&&dj n x.Give
def pairsOk (xs:VP) (n:Int):Bool:=decide ((xs.length:Int)<=4)&&xs.all (pairOk n)
section
variable {xs:VP}{n:Int}(h0:0<=n) (h1:n<=256) (hb:∀x∈xs,x.Ask.length<=1000000000/\x.Give.length<=1000000000)
include h0 h1 hb
omit hb in
theorem sv {s:VI}(a:s.length<=1000000000):l9 s n=some (dj n s):=by
 unfold l9
 rw[d8,lz h0 (by omega) a]
 simp[h0,h1]
theorem pQ:mQ xs n=some (pairsOk xs n):=by
 unfold mQ pairsOk
 rw[d8]
 simp only[h0,h1,decide_true,Bool.and_self,GA,F7,cond_false,rj]
 cases decide ((xs.length:Int)<=4) with
 |false=>rfl
 |true=>
  rw[d9 (f:=kH xs n) (r:=false) (pairOk n) (xs:=xs) rfl (λd x a=>by
   obtain⟨b,c⟩:=hb x (FI a)
   unfold kH pairOk
   rw[bT,a]
   simp only[GA,sv h0 h1 b,sv h0 h1 c]
   cases dj n x.Ask <;> cases dj n x.Give <;> rfl)]
  simp only[F7,cond_false,GA,F8]
  cases xs.all (pairOk n) <;> rfl
end
theorem ut {row:VI}{v:Int}:kJ row v=some (decide (v∈row)):=by
 unfold kJ
 rw[d9 (f:=nH row v) (r:=true) (xs:=row) (λx=> !(x==v)) rfl (λc x a=>by
  unfold nH
  rw[bT,a,GA]
  cases x==v <;> rfl)]
 by_cases h:v∈row
 .have:(row.all λx=> !(x==v))=false:=by
   rw[List.all_eq_false]
   exact⟨v,h,by simp⟩
  rw[this,decide_eq_true h];rfl
 .have:(row.all λx=> !(x==v))=true:=by
   rw[Gc]
   intro x a
   have:x≠v:=λb=>h (b ▸ a)
   simp[this]
  rw[this,decide_eq_false h];rfl
theorem CR {xs:VI}(h:Asc xs){n:Int}(e:n∈xs) (o:xs.length<=100000):lw xs n=some xs:=by
 obtain⟨k,hk⟩:=Gf e
 have m:=(C7.1 hk).1
 obtain⟨g,i,j⟩:=cZ (f:=iH xs n) (λa (c:Int)=>c=(a:Int)/\a<=k) (λ_=>False) (λc=>c=(k:Int)) xs.length (λa c ⟨b,l⟩=>by
  subst b
  have d:xs[a]? =some (xs[a]'(by omega)):=ct (by omega)
  generalize xs[a]'(by omega)=x at d
  unfold iH
  rw[decide_eq_true (show(a:Int)<(xs.length:Int) by omega),cond_true,bT,d,GA,GA]
  by_cases b:a=k
  .subst b
   rw[d]at hk
   cases hk
   rw[decide_eq_false (Int.lt_irrefl _),cond_false]
   exact⟨_,rfl,rfl⟩
  .have:=vR h d hk (by omega)
   rw[decide_eq_true this,cond_true]
   exact⟨_,rfl,by omega,by rw[wr' (by omega) (by omega)];omega,by omega⟩)
  (2 ^ 64) 0 0 (by omega) ⟨rfl,Gz _⟩ (by omega)
 match g,j with
 |.inr c,b=>
  have b:c=(k:Int):=b
  subst b
  unfold lw
  rw[i,GA,bV,decide_eq_true (show(k:Int)<(xs.length:Int) by omega),cond_true,bT,hk,GA,GA]
  simp
theorem Bt {xs:VI}(h:Asc xs) (n:Int) (c:xs.length<=100000):∃R,lw xs n=some R/\Asc R/\∀b,b∈R↔b=n\/b∈xs:=by
 by_cases a:n∈xs
 .exact⟨xs,CR h a c,h,λb=>⟨.inr,λk=>k.elim (λd=>d ▸ a) id⟩⟩
 .exact⟨_,CQ h a c,sZ h,ta a⟩
structure St (n:Nat) (xs:VI):Prop where
 asc:Asc xs
 rng:∀x∈xs,0<=x/\x<n
theorem St.len {n:Nat}{xs:VI}(h:St n xs):xs.length<=n:=ez n xs (iz h.asc) h.rng
theorem St.ok {n:Nat}{xs:VI}(h:St n xs){m:Int}(b:(n:Int)<=m):dj m xs=true:=fI.2 ⟨λx a=>by have:=h.rng x a;omega,h.asc⟩
theorem St.of {n:Nat}{xs:VI}(h:dj (n:Int) xs=true):St n xs:=⟨(fI.1 h).2,(fI.1 h).1⟩
theorem St.filter {n:Nat}{xs:VI}(h:St n xs) (p:Int->Bool):St n (xs.filter p):=⟨h.asc.filter _,λx a=>h.rng x (Gj.1 a).1⟩
def ltd (p:Sig):Int:=pw p.In * pw p.Out
theorem sQ {p:Sig}(hs:sigOk p=true):d6 p=some (ltd p):=by
 unfold d6
 rw[iw,hs]
 obtain⟨a,b⟩:=eQ hs
 unfold ltd
 simp only[GA,F7,cond_false]
 rcases a with h|h <;> rcases b with k|k <;> rw[h,k] <;> decide
theorem sH {p:Sig}(hs:sigOk p=true):dY p=some (ltd p):=by
 obtain⟨h1,a⟩:=eQ hs
 unfold dY ltd
 rcases h1 with h1|h1 <;> rcases a with a|a <;> rw[h1,a] <;> decide
def detRow (p:Sig) (n:Int) (row:VI):Bool:=((row.length:Int)==ltd p)&&row.all (inR n)
def detOk (p:Sig) (d:Det):Bool:=decide (1<=(d.Next.length:Int))&&decide ((d.Next.length:Int)<=48)&&pairsOk d.Pairs d.Next.length&&d.Next.all (detRow p d.Next.length)
section
variable {p:Sig}{d:Det}(hs:sigOk p=true) (hb:∀x∈d.Pairs,x.Ask.length<=1000000000/\x.Give.length<=1000000000)
include hs hb
theorem lW:nA p d=some (detOk p d):=by
 unfold nA detOk
 rw[iw,hs]
 simp only[GA,F7,cond_false,d8]
 cases h1:(decide (1<=(d.Next.length:Int))&&decide ((d.Next.length:Int)<=48)) with
 |false=>rfl
 |true=>
  simp only[ra,decide_eq_true_eq]at h1
  rw[d9 (f:=nB p d) (r:=false) (detRow p d.Next.length) (xs:=d.Next) rfl (λb row a=>by
   unfold nB detRow
   rw[bT,a]
   simp only[GA,sQ hs,uX row (n:=(d.Next.length:Int)) (by omega) (by omega),bne]
   cases((row.length:Int)==ltd p) <;> cases row.all (inR d.Next.length) <;> rfl),pQ (by omega) (by omega) hb]
  simp only[F7,cond_false,GA,F8]
  cases d.Next.all (detRow p d.Next.length) <;> cases pairsOk d.Pairs d.Next.length <;> rfl
omit hs hb in
theorem eb (h:detOk p d=true):1<=d.Next.length/\d.Next.length<=48/\d.Pairs.length<=4/\∀row∈d.Next,RowIn d.Next.length (ltd p) row:=by
 simp only[detOk,pairsOk,ra,decide_eq_true_eq,Gc]at h
 obtain⟨⟨⟨h1,c⟩,e,_⟩,a⟩:=h
 refine⟨by omega,by omega,by omega,λrow b=>?_⟩
 have:=a row b
 simp only[detRow,ra,beq_iff_eq,Gc,gQ]at this
 exact this
end
def ltr (p:Sig):Int:=pw p.In * pw p.Out
theorem rJ {p:Sig}(hs:sigOk p=true):4<=ltr p/\ltr p<=16:=by
 obtain⟨a,b⟩:=eQ hs
 unfold ltr pw
 rcases a with h|h <;> rcases b with k|k <;> rw[h,k] <;> decide
theorem jf {p:Sig}(hs:sigOk p=true):d6 p=some (ltr p):=by
 unfold d6
 rw[iw,hs]
 obtain⟨a,b⟩:=eQ hs
 unfold ltr
 simp only[GA,F7,cond_false]
 rcases a with h|h <;> rcases b with k|k <;> rw[h,k] <;> decide
theorem lb {p:Sig}(hs:sigOk p=true):dY p=some (ltr p):=by
 unfold dY
 obtain⟨a,b⟩:=eQ hs
 unfold ltr
 rcases a with h|h <;> rcases b with k|k <;> rw[h,k] <;> decide
def cK (p:Sig) (c:Clause):Bool:=decide (1<=c.Kind)&&decide (c.Kind<=7)&&dj (ltr p) c.A&&dj (ltr p) c.B&&(c.Kind==2||c.Kind==3||c.Kind==7||((c.B.length:Int)==0))
theorem pP {p:Sig}(hs:sigOk p=true){c:Clause}(hb:Clause.bd c):jy p c=some (cK p c):=by
 obtain⟨_,⟨a,_⟩,⟨b,_⟩⟩:=hb
 have d:=rJ hs
 unfold jy cK pz
 rw[iw,hs,jf hs]
 simp only[GA,F7,cond_false,d8,lz (xs:=c.A) (n:=ltr p) (by omega) (by omega) (by omega),lz (xs:=c.B) (n:=ltr p) (by omega) (by omega) (by omega),orE,andE]
 generalize decide (1<=c.Kind)=b1
 generalize decide (c.Kind<=7)=b2
 generalize dj (ltr p) c.A=b3
 generalize dj (ltr p) c.B=b4
 generalize(c.Kind==2)=b5
 generalize(c.Kind==3)=b6
 generalize(c.Kind==7)=b7
 generalize((c.B.length:Int)==0)=b8
 cases b1 <;> cases b2 <;> cases b3 <;> cases b4 <;> cases b5 <;> cases b6 <;> cases b7 <;> cases b8 <;> rfl
theorem pL {p:Sig}(hs:sigOk p=true){c:Clause}(hb:Clause.bd c):ju p c=some (cK p c):=by
 obtain⟨_,⟨d,_⟩,⟨e,_⟩⟩:=hb
 unfold ju cK lL
 have a:decide (c.Kind<1)= !decide (1<=c.Kind):=by rw[← decide_not];exact decide_eq_decide.2 (by omega)
 have b:decide (7<c.Kind)= !decide (c.Kind<=7):=by rw[← decide_not];exact decide_eq_decide.2 (by omega)
 rw[lb hs,a,b]
 simp only[GA,kY (xs:=c.A) (n:=ltr p) (by omega),kY (xs:=c.B) (n:=ltr p) (by omega),orE,andE]
 generalize decide (1<=c.Kind)=b1
 generalize decide (c.Kind<=7)=b2
 generalize dj (ltr p) c.A=b3
 generalize dj (ltr p) c.B=b4
 generalize(c.Kind==2)=b5
 generalize(c.Kind==3)=b6
 generalize(c.Kind==7)=b7
 generalize((c.B.length:Int)==0)=b8
 cases b1 <;> cases b2 <;> cases b3 <;> cases b4 <;> cases b5 <;> cases b6 <;> cases b7 <;> cases b8 <;> rfl
theorem uj {p:Sig}(hs:sigOk p=true){a:VC}(hb:∀c∈a,Clause.bd c):iF p a=some (decide ((a.length:Int)<=3)&&a.all (cK p)):=by
 unfold iF
 rw[iw,hs]
 have b:decide (3<(a.length:Int))= !decide ((a.length:Int)<=3):=by rw[← decide_not];exact decide_eq_decide.2 (by omega)
 simp only[GA,F7,cond_false,b]
 cases decide ((a.length:Int)<=3) with
 |false=>rfl
 |true=>
  simp only[F7,cond_false,F8]
  rw[d9 (f:=je p a) (r:=false) (cK p) (xs:=a) rfl (λd c hc=>by
   unfold je
   rw[bT,hc,GA,pP hs (hb c (FI hc)),GA]
   cases cK p c <;> rfl)]
  cases a.all (cK p) <;> rfl
theorem sE {p:Sig}(hs:sigOk p=true){a:VC}(hb:∀c∈a,Clause.bd c):ko p a=some (decide ((a.length:Int)<=3)&&a.all (cK p)):=by
 unfold ko
 rw[dG (λc=> !cK p c) (λc hc=>by
  unfold fR
  rw[pL hs (hb c hc)];rfl)]
 simp only[GA,andE]
 rw[List.all_eq_not_any_not]
abbrev Key:=Int×Int
def loc (K:List Key) (k:Key):Option Nat:=K.findIdx? (λx=>k==x)
def addK (K:List Key) (k:Key):List Key:=match loc K k with | some _=>K | none=>K++[k]
def atK (K:List Key) (k:Key):Int:=match loc K k with | some a=>(a:Int) | none=>(K.length:Int)
def ixm (n:Nat) (K:List Key):List (Key×Int):=(K.zipIdx n).map λp=>(p.1,(p.2:Int))
theorem tR (n:Nat) (x:Key) (K:List Key):ixm n (x::K)=(x,(n:Int))::ixm (n+1) K:=rfl
theorem xS (x:Key) (K:List Key) (k:Key):loc (x::K) k=if k=x then some 0 else(loc K k).map (· + 1):=by
 unfold loc
 rw[List.findIdx?_cons]
 by_cases h:k=x
 .simp[h]
 .have:(k==x)=false:=by rw[beq_eq_false_iff_ne];exact h
  rw[this,if_neg h];rfl
theorem xF:∀(K:List Key) (n:Nat) (k:Key),getK (ixm n K) k=(loc K k).map λa=>((n+a:Nat):Int)
 | [],_,_=>rfl
 |x::K,n,k=>by
  rw[tR,xS]
  show(if k=x then some (n:Int) else getK (ixm (n+1) K) k)=_
  rw[xF K (n+1) k]
  by_cases h:k=x
  .simp[h]
  .rw[if_neg h,if_neg h]
   cases loc K k with
   |none=>rfl
   |some a=>
    show some ((n+1+a:Nat):Int)=some ((n+(a+1):Nat):Int)
    congr 2;omega
theorem yh:∀(K:List Key) (n:Nat) (k:Key),loc K k=none->putK (ixm n K) k ((n+K.length:Nat):Int)=ixm n (K++[k])
 | [],n,k,_=>rfl
 |x::K,n,k,h=>by
  rw[xS]at h
  have hk:¬k=x:=λa=>by rw[if_pos a]at h;cases h
  rw[if_neg hk]at h
  have b:loc K k=none:=by cases a:loc K k with
   |none=>rfl
   |some c=>rw[a]at h;cases h
  rw[tR,List.cons_append,tR]
  show(if k=x then _ else _::putK (ixm (n+1) K) k _)=_
  rw[if_neg hk,show n+(x::K).length=(n+1)+K.length from by simp only[E1];omega,yh K (n+1) k b]
theorem BJ (K:List Key){k:Key}(a:kwI2 k=true):mget kwI2 (ixm 0 K) k (0:Int)=some (match loc K k with | some i=>((i:Int),true) | none=>(0,false)):=by
 unfold mget
 rw[if_pos a,xF]
 cases loc K k with
 |none=>rfl
 |some i=>simp
theorem BL {K:List Key}{k:Key}(a:kwI2 k=true) (h:loc K k=none):mset kwI2 (ixm 0 K) k (K.length:Int)=some (ixm 0 (K++[k])):=by
 unfold mset
 rw[if_pos a]
 have:=yh K 0 k h
 rw[Fj]at this
 rw[this]
theorem ET {k:Key}(h1:0<=k.1) (a:k.1<=1000) (b:0<=k.2) (c:k.2<=1000):kwI2 k=true:=by
 unfold kwI2 wf2
 simp only[decide_eq_true_eq]
 omega
theorem xk (K:List Key) (k:Key):K.length<=(addK K k).length/\(addK K k).length<=K.length+1:=by
 unfold addK
 cases loc K k <;> simp
theorem tm {K:List Key}{k:Key}{i:Nat}{v:Key}(h:K[i]? =some v):(addK K k)[i]? =some v:=by
 unfold addK
 cases loc K k with
 |some _=>exact h
 |none=>
  have:=(C7.1 h).1
  dsimp only
  rw[Fw this];exact h
theorem xl {K:List Key}{k x:Key}(h:x∈addK K k):x∈K\/x=k:=by
 unfold addK at h
 cases a:loc K k with
 |some _=>rw[a]at h;exact .inl h
 |none=>rw[a]at h;simpa using h
theorem BE {K:List Key}{k:Key}{i:Nat}(h:loc K k=some i):K[i]? =some k:=by
 unfold loc at h
 obtain⟨h1,a,b⟩:=List.findIdx?_eq_some_iff_getElem.1 h
 have:k=K[i]:=by simpa using a
 rw[ct h1,← this]
theorem BD {K:List Key}{k:Key}(h:loc K k=none):k∉K:=λa=>by
 unfold loc at h
 rw[List.findIdx?_eq_none_iff]at h
 have:=h k a
 simp at this
theorem Cw (K:List Key) (k:Key):0<=atK K k/\(addK K k)[(atK K k).toNat]? =some k:=by
 unfold atK addK
 cases h:loc K k with
 |none=>exact⟨by dsimp only;omega,by dsimp only;rw[Gb];simp⟩
 |some a=>exact⟨by dsimp only;omega,by dsimp only;rw[Gb];exact BE h⟩
theorem yM {K:List Key}(c:K.Nodup) (k:Key):(addK K k).Nodup:=by
 unfold addK
 cases h:loc K k with
 |none=>
  dsimp only
  refine Gq.2 ⟨c,by simp,λa ha b hb d=>?_⟩
  rw[E7]at hb
  exact BD h (hb ▸ d ▸ ha)
 |some e=>exact c
def rowK (a:Int->Key) (K:List Key):Nat->List Key×VI
 |0=>(K,[])
 |j+1=>(addK (rowK a K j).1 (a j),(rowK a K j).2++[atK (rowK a K j).1 (a j)])
structure RowK (ky:Int->Key) (K:List Key) (j:Nat) (K':List Key) (row:VI):Prop where
 pre:∀(i:Nat) v,K[i]? =some v->K'[i]? =some v
 len:K.length<=K'.length
 le:K'.length<=K.length+j
 nod:K.Nodup->K'.Nodup
 rl:row.length=j
 at_:∀i:Nat,i<j->∃x,row[i]? =some x/\0<=x/\K'[x.toNat]? =some (ky i)
 mem:∀v∈K',v∈K\/∃i:Nat,i<j/\v=ky i
theorem nt (d:Int->Key) (K:List Key):∀a,RowK d K a (rowK d K a).1 (rowK d K a).2
 |0=>⟨λ_ _ h=>h,Fg _,Fg _,id,rfl,λb g=>absurd g (Gy b),λe h=> .inl h⟩
 |a+1=>by
  have h:=nt d K a
  unfold rowK
  generalize rowK d K a=F at *
  have n:=xk F.1 (d a)
  obtain⟨j,l⟩:=Cw F.1 (d a)
  refine⟨λb e c=>tm (h.pre b e c),Nat.le_trans h.len n.1,?_,λo=>yM (h.nod o) _,by simp[h.rl],λb g=>?_,λe c=>?_⟩
  .have:=h.le;dsimp only;omega
  .by_cases f:b=a
   .subst f
    refine⟨_,by rw[← h.rl];simp,j,l⟩
   .obtain⟨x,i,p,q⟩:=h.at_ b (by omega)
    have m:=(C7.1 i).1
    exact⟨x,by rw[Fw m];exact i,p,tm q⟩
  .rcases xl c with c|c
   .rcases h.mem e c with k|⟨b,g,f⟩
    .exact .inl k
    .exact .inr ⟨b,by omega,f⟩
   .exact .inr ⟨a,by omega,c⟩
structure Prod (ky:Key->Int->Key) (k:Nat) (K:List Key) (i:Nat) (R:VV):Prop where
 nod:K.Nodup
 zero:K[0]? =some (0,0)
 il:i<=K.length
 rl:R.length=i
 row:∀(j:Nat) r,R[j]? =some r->r.length=k/\∃v,K[j]? =some v/\∀x:Nat,x<k->∃y,r[x]? =some y/\0<=y/\K[y.toNat]? =some (ky v x)
 src:∀(q:Nat) u,K[q]? =some u->q=0\/∃(j x:Nat) (v:Key),j<q/\j<i/\K[j]? =some v/\x<k/\u=ky v x
theorem Prod.init (b:Key->Int->Key) (k:Nat):Prod b k [(0,0)] 0 []:=⟨by simp,rfl,by simp,rfl,λc d h=>by simp at h,λa u h=>by
 cases a with
 |zero=>exact .inl rfl
 |succ a=>simp at h⟩
theorem Prod.step {g:Key->Int->Key}{k:Nat}{K:List Key}{i:Nat}{R:VV}(h:Prod g k K i R){v:Key}(m:K[i]? =some v):Prod g k (rowK (g v) K k).1 (i+1) (R++[(rowK (g v) K k).2]):=by
 have d:=nt (g v) K k
 generalize rowK (g v) K k=F at *
 have M:=(C7.1 (d.pre i v m)).1
 refine⟨d.nod h.nod,d.pre 0 _ h.zero,by omega,by simp[h.rl],λf row e=>?_,λj u p=>?_⟩
 rotate_left
 .have N:=(C7.1 m).1
  by_cases o:j<K.length
  .have l:K[j]? =some K[j]:=ct o
   have:=d.pre j _ l
   rw[p]at this
   have y:u=K[j]:=Option.some.inj this
   rcases h.src j _ l with h0|⟨f,x,n,r,L,s,t,w⟩
   .exact .inl h0
   .exact .inr ⟨f,x,n,r,by omega,d.pre _ _ s,t,by rw[y,w]⟩
  .rcases d.mem u (FI p) with z|⟨x,C,D⟩
   .obtain⟨B,l⟩:=Gf z
    have O:=(C7.1 l).1
    have q:=d.pre B u l
    have:=(List.getElem?_inj (by have:=(C7.1 q).1;exact this) (d.nod h.nod)).1 (q.trans p.symm)
    omega
   .exact .inr ⟨i,x,v,by omega,Nat.lt_succ_self _,d.pre i v m,C,D⟩
 by_cases o:f<R.length
 .rw[Fw o]at e
  obtain⟨a,n,b,c⟩:=h.row f row e
  refine⟨a,n,d.pre f n b,λx A=>?_⟩
  obtain⟨E,G,H,I⟩:=c x A
  exact⟨E,G,H,d.pre _ _ I⟩
 .have:f=i:=by
   have:=(C7.1 e).1
   rw[C9]at this
   simp only[E1,Gh]at this
   have:=h.rl
   omega
  subst this
  rw[← h.rl]at e
  simp at e
  subst e
  exact⟨d.rl,v,d.pre _ _ m,d.at_⟩
theorem xQ {A B:Nat}{K:List Key}(m:K.Nodup) (hk:∀c∈K,0<=c.1/\c.1<A/\0<=c.2/\c.2<B):K.length<=A * B:=by
 have e:∀a b:Int,a<b->a * B+B<=b * B:=λa b h=>by
  have:=Int.mul_le_mul_of_nonneg_right (show a+1<=b by omega) (show(0:Int)<=(B:Int) by omega)
  rwa [Int.add_mul,Int.one_mul]at this
 have h:=ez (A * B) (K.map λc=>c.1 * B+c.2) (by
  rw[List.Nodup,List.pairwise_map]
  refine List.Pairwise.imp_of_mem (λ{a b} ha hb n d=>?_) m
  obtain⟨f,g,j,k⟩:=hk a ha
  obtain⟨q,r,s,t⟩:=hk b hb
  by_cases h1:a.1<b.1
  .have:=e a.1 b.1 h1;omega
  .by_cases l:b.1<a.1
   .have:=e b.1 a.1 l;omega
   .have i:a.1=b.1:=by omega
    rw[i]at d
    exact n (Prod.ext i (by omega))) (λx p=>by
  obtain⟨c,o,rfl⟩:=FH.1 p
  obtain⟨f,g,j,k⟩:=hk c o
  have h0:0<=c.1 * (B:Int):=Int.mul_nonneg f (by omega)
  have:=e c.1 A g
  have d:((A * B:Nat):Int)=(A:Int) * (B:Int):=by simp
  rw[d]
  omega)
 rwa [Gg]at h
def plK (part:Key->Int) (K:List Key) (S:VI):Nat->VI
 |0=>[]
 |j+1=>plK part K S j++(match K[j]? with | some a=>if part a∈S then[(j:Int)] else[] | none=>[])
theorem te (part:Key->Int) (K:List Key) (S:VI):∀(j:Nat) (z:Int),z∈plK part K S j↔∃i:Nat,i<j/\z=(i:Int)/\∃a,K[i]? =some a/\part a∈S
 |0,z=>by simp[plK]
 |j+1,z=>by
  unfold plK
  rw[E4,te part K S j]
  constructor
  .rintro(⟨i,h1,c⟩|h)
   .exact⟨i,by omega,c⟩
   .cases b:K[j]? with
    |none=>rw[b]at h;cases h
    |some a=>
     rw[b]at h
     dsimp only at h
     by_cases d:part a∈S
     .rw[if_pos d,E7]at h
      exact⟨j,by omega,h,a,b,d⟩
     .rw[if_neg d]at h;cases h
  .rintro⟨i,h1,c,a,e,f⟩
   by_cases b:i=j
   .subst b
    right
    rw[e]
    dsimp only
    rw[if_pos f,E7]
    exact c
   .exact .inl ⟨i,by omega,c,a,e,f⟩
theorem Af (part:Key->Int) (K:List Key) (S:VI):∀c:Nat,Asc (plK part K S c)
 |0=>List.Pairwise.nil
 |c+1=>by
  unfold plK
  refine Gs.2 ⟨Af part K S c,?_,λa ha b hb=>?_⟩
  .cases K[c]? with
   |none=>exact List.Pairwise.nil
   |some e=>dsimp only;split <;> simp
  .obtain⟨i,h1,f,_⟩:=(te part K S c a).1 ha
   have g:b=(c:Int):=by
    cases d:K[c]? with
    |none=>rw[d]at hb;cases hb
    |some e=>
     rw[d]at hb
     dsimp only at hb
     split at hb
     .simpa using hb
     .cases hb
   omega
theorem Ah (part:Key->Int) (K:List Key) (S:VI):∀a:Nat,(plK part K S a).length<=a
 |0=>Fg _
 |a+1=>by
  unfold plK
  have:=Ah part K S a
  rw[C9]
  have:(match K[a]? with | some b=>if part b∈S then[(a:Int)] else[] | none=>[]:VI).length<=1:=by
   cases K[a]? with
   |none=>simp
   |some b=>dsimp only;split <;> simp
  omega
theorem zd (part:Key->Int) (K:List Key) (S:VI) (j:Nat):St j (plK part K S j):=⟨Af part K S j,λx a=>by
 obtain⟨c,h1,b,_⟩:=(te part K S j x).1 a
 omega⟩
def b01 (b:Bool):Int:=if b then 1 else 0
theorem oc (b:Bool):0<=b01 b/\b01 b<=1:=by cases b <;> decide
def mx (x y:Int):Int:=if x<y then y else x
def monNext (k q:Int) (a b:Bool):Int:=
 if k=1 then mx q (1-b01 a)
 else if k=2 then(if q=2\/(q=1/\b=false) then 2 else b01 a)
 else if k=3 then(if b=true then 0 else mx q (b01 a))
 else if k=4 then b01 a
 else if k=5 then 1-b01 a
 else if k=6 then mx q (b01 a)
 else 2 * b01 a+b01 b
def monStates (k:Int):Nat:=if k=2 then 3 else if k=7 then 4 else 2
def monPair (k:Int):Pair:=
 if k=1\/k=5 then⟨[1],[]⟩ else if k=2 then⟨[2],[]⟩ else if k=3 then⟨[1],[0]⟩ else if k=4 then⟨[0,1],[1]⟩ else if k=6 then⟨[0],[]⟩ else⟨[2,3],[1,3]⟩
def numsN (n:Nat):VI:=(List.range n).map (λa:Nat=>(a:Int))
theorem nq (n:Nat):numsN (n+1)=numsN n++[(n:Int)]:=by simp[numsN,List.range_succ]
theorem jw (n:Nat):(numsN n).length=n:=by simp[numsN]
def monRow (c:Clause) (n:Nat) (q:Int):VI:=(numsN n).map λx=>monNext c.Kind q (decide (x∈c.A)) (decide (x∈c.B))
def monD (c:Clause) (n:Nat):Det:=⟨(numsN (monStates c.Kind)).map (monRow c n),[monPair c.Kind]⟩
theorem kinds {k:Int}(h1:1<=k) (a:k<=7):k=1\/k=2\/k=3\/k=4\/k=5\/k=6\/k=7:=by omega
theorem za {k q:Int}(h1:1<=k) (c:k<=7) (d:0<=q) (e:q<monStates k) (a b:Bool):0<=monNext k q a b/\monNext k q a b<monStates k:=by
 rcases kinds h1 c with h|h|h|h|h|h|h <;> subst h <;> cases a <;> cases b <;> simp only[monNext,monStates,mx,b01]at * <;> simp at * <;> (repeat' split) <;> omega
section
variable {p:Sig}(hs:sigOk p=true){c:Clause}(hb:Clause.bd c) (hc:cK p c=true)
include hs hc
omit hs in
theorem qG:1<=c.Kind/\c.Kind<=7:=by
 unfold cK at hc
 simp only[ra,decide_eq_true_eq]at hc
 exact⟨hc.1.1.1.1,hc.1.1.1.2⟩
omit hs in
theorem A3 {q:Int}(s:0<=q) (t:q<=10) (x:Int):pA c q x=some (monNext c.Kind q (decide (x∈c.A)) (decide (x∈c.B))):=by
 obtain⟨m,n⟩:=qG hc
 unfold pA
 rw[ut,GA,ut]
 have j:∀b:Bool,gx b=some (b01 b):=λb=>by unfold gx;cases b <;> rfl
 have e:∀x d:Int,kK x d=some (mx x d):=λx d=>by
  unfold kK mx
  by_cases h:d<x
  .rw[decide_eq_true h,if_neg (by omega)];rfl
  .rw[decide_eq_false h]
   by_cases i:x<d
   .rw[if_pos i];rfl
   .rw[if_neg i]
    have:x=d:=by omega
    subst this;rfl
 rw[j,GA,GA,j,GA]
 generalize decide (x∈c.A)=a
 generalize decide (x∈c.B)=b
 have o:FW .i64 (1-b01 a)=1-b01 a:=by have:=oc a;exact wr' (by omega) (by omega)
 have p:FW .i64 (2 * b01 a)=2 * b01 a:=by have:=oc a;exact wr' (by omega) (by omega)
 have r:FW .i64 (2 * b01 a+b01 b)=2 * b01 a+b01 b:=by have:=oc a;have:=oc b;exact wr' (by omega) (by omega)
 rw[o,p,r]
 rcases kinds m n with h|h|h|h|h|h|h <;> rw[h] <;> unfold monNext
 .simp[e]
 .by_cases g:q=2
  .subst g;simp
  .by_cases f:q=1
   .subst f;cases b <;> simp[b01]
   .have k:(q==2)=false:=by simpa using g
    have l:(q==1)=false:=by simpa using f
    simp[k,l,g,f]
 .cases b <;> simp[b01,e]
 .simp
 .simp
 .simp[e]
 .simp
omit hs in
theorem AE {q:Int}(n:0<=q) (o:q<=10) (a b:Bool):jO c.Kind q a b=some (monNext c.Kind q a b):=by
 obtain⟨i,j⟩:=qG hc
 unfold jO
 have d:(bif a then some (1:Int) else some 0)=some (b01 a):=by cases a <;> rfl
 have e:(bif b then some (true,(1:Int)) else some (false,(0:Int)))=some (b,b01 b):=by cases b <;> rfl
 rw[d,e,GA,GA]
 dsimp only
 have k:FW .i64 (1-b01 a)=1-b01 a:=by have:=oc a;exact wr' (by omega) (by omega)
 have l:FW .i64 (2 * b01 a)=2 * b01 a:=by have:=oc a;exact wr' (by omega) (by omega)
 have m:FW .i64 (2 * b01 a+b01 b)=2 * b01 a+b01 b:=by have:=oc a;have:=oc b;exact wr' (by omega) (by omega)
 rw[k,l,m]
 rcases kinds i j with h|h|h|h|h|h|h <;> rw[h] <;> unfold monNext mx
 .simp
 .by_cases g:q=2
  .subst g;simp
  .by_cases f:q=1
   .subst f;cases b <;> simp[b01]
   .have d:(q==2)=false:=by simpa using g
    have e:(q==1)=false:=by simpa using f
    simp[d,e,g,f]
 .cases b <;> simp[b01]
 .simp
 .simp
 .simp
 .simp
include hb
theorem A1 {n:Nat}(s:ltr p=n):lZ p c=some (monD c n):=by
 obtain⟨m,o⟩:=qG hc
 obtain⟨D,E⟩:=rJ hs
 have u:j7 c.Kind=some ((monStates c.Kind:Nat):Int):=by
  unfold j7 monStates
  rcases kinds m o with h|h|h|h|h|h|h <;> rw[h] <;> rfl
 have t:pB c.Kind=some (monPair c.Kind):=by
  unfold pB monPair
  rcases kinds m o with h|h|h|h|h|h|h <;> rw[h] <;> rfl
 have C:monStates c.Kind<=4:=by unfold monStates;(repeat' split) <;> omega
 unfold lZ
 rw[pP hs hb,hc,GA,F7,cond_false,t,GA]
 obtain⟨v,z,i⟩:=cZ (f:=jg p c) (λb (a:Int×VV)=>a.1=(b:Int)/\b<=monStates c.Kind/\a.2=(numsN b).map (monRow c n)) (λ_=>False) (λa=>a.2=(numsN (monStates c.Kind)).map (monRow c n)) (monStates c.Kind) (λb a ⟨k,A,e⟩=>by
  obtain⟨F,xs⟩:=a
  dsimp only at k e
  subst k
  unfold jg
  dsimp only
  rw[u,GA]
  by_cases r:b<monStates c.Kind
  .obtain⟨w,y,g⟩:=cZ (f:=jh p c ((b:Int),xs)) (λd (a:VI×Int)=>a.2=(d:Int)/\d<=n/\a.1=(numsN d).map λx=>monNext c.Kind (b:Int) (decide (x∈c.A)) (decide (x∈c.B))) (λ_=>False) (λa=>a.1=monRow c n (b:Int)) n (λd a ⟨l,B,j⟩=>by
    obtain⟨G,x⟩:=a
    dsimp only at l j
    subst l
    unfold jh
    dsimp only
    rw[jf hs,GA,s]
    by_cases q:d<n
    .rw[decide_eq_true (show(d:Int)<(n:Int) by omega),cond_true,A3 hc (by omega) (by omega),GA,app1 (by rw[j,Gg,jw];omega) rfl,GA]
     refine⟨_,rfl,q,by dsimp only;rw[wr' (by omega) (by omega)];omega,by omega,?_⟩
     dsimp only
     rw[j,nq,FF];rfl
    .have:d=n:=by omega
     subst this
     rw[decide_eq_false (Int.lt_irrefl _),cond_false]
     exact⟨_,rfl,j⟩) (2 ^ 64) 0 ([],0) (by omega) ⟨rfl,Gz _,rfl⟩ (by omega)
   match w,g with
   |.inr a,g=>
    have g:a.1=monRow c n (b:Int):=g
    rw[decide_eq_true (show(b:Int)<((monStates c.Kind:Nat):Int) by omega),cond_true,y,GA,bV,app1 (by rw[e,Gg,jw];omega) rfl,GA]
    refine⟨_,rfl,r,by dsimp only;rw[wr' (by omega) (by omega)];omega,by omega,?_⟩
    dsimp only
    rw[e,g,nq,FF];rfl
  .have:b=monStates c.Kind:=by omega
   rw[this]at e ⊢
   rw[decide_eq_false (Int.lt_irrefl _),cond_false]
   exact⟨_,rfl,e⟩) (2 ^ 64) 0 (0,[]) (by omega) ⟨rfl,Gz _,rfl⟩ (by omega)
 match v,i with
 |.inr a,i=>
  have i:a.2=(numsN (monStates c.Kind)).map (monRow c n):=i
  rw[z,GA,bV,i];rfl
omit hb in
theorem AD {n:Nat}(q:ltr p=n):lQ p c=some (monD c n):=by
 obtain⟨u,v⟩:=qG hc
 obtain⟨B,C⟩:=rJ hs
 have z:monStates c.Kind<=4:=by unfold monStates;(repeat' split) <;> omega
 have s:∀e:Nat,e<=10->cntM (gh c (e:Int)) n 0 []=some (.inr (monRow c n (e:Int))):=λe A=>by
  obtain⟨b,h1,i⟩:=cg (f:=gh c (e:Int)) (λa b=>b=(numsN a).map λx=>monNext c.Kind (e:Int) (decide (x∈c.A)) (decide (x∈c.B))) n (s:=[]) rfl (λa b o j=>by
   subst j
   have l:∀k:VI,ca k (a:Int)=some (decide ((a:Int)∈k)):=λk=>by
    rw[cP]
    congr 1
    rw[F6,List.any_eq_true,decide_eq_true_eq]
    exact⟨λ⟨w,t,m⟩=>(show(a:Int)=w by simpa using m) ▸ t,λh=>⟨_,h,by simp⟩⟩
   unfold gh
   rw[l,l,GA,GA,AE hc (by omega) (by omega),GA,app1 (by rw[Gg,jw];omega) rfl,GA]
   exact⟨_,rfl,by rw[nq,FF];rfl⟩)
  rw[h1,i];rfl
 have d:∀g:Nat,g<=4->cntM (gg p c) g 0 []=some (.inr ((numsN g).map (monRow c n))):=λg y=>by
  obtain⟨b,h1,i⟩:=cg (f:=gg p c) (λa b=>b=(numsN a).map (monRow c n)) g (s:=[]) rfl (λa b o j=>by
   subst j
   have r:rng (n:Int)=some ():=by unfold rng;rw[if_pos (by omega)]
   unfold gg
   rw[lb hs,GA,q,r,GA,Int.sub_zero,Gb,s a (by omega),GA,bV,app1 (by rw[Gg,jw];omega) rfl,GA]
   exact⟨_,rfl,by rw[nq,FF];rfl⟩)
  rw[h1,i]
 unfold lQ monD monPair monStates
 rcases kinds u v with h|h|h|h|h|h|h <;> rw[h]
 .have:=d 2 (by omega)
  simp[rng,this,bV]
 .have:=d 3 (by omega)
  simp[rng,this,bV]
 .have:=d 2 (by omega)
  simp[rng,this,bV]
 .have:=d 2 (by omega)
  simp[rng,this,bV]
 .have:=d 2 (by omega)
  simp[rng,this,bV]
 .have:=d 2 (by omega)
  simp[rng,this,bV]
 .have:=d 4 (by omega)
  simp[rng,this,bV]
omit hs hb in
theorem CZ {n:Nat}(a:ltr p=n):detOk p (monD c n)=true/\(monD c n).Pairs.length=1:=by
 obtain⟨b,d⟩:=qG hc
 have f:(monD c n).Next.length=monStates c.Kind:=by
  show((numsN _).map _).length=_
  rw[Gg,jw]
 refine⟨?_,rfl⟩
 unfold detOk
 rw[f]
 have m:1<=monStates c.Kind/\monStates c.Kind<=4:=by unfold monStates;(repeat' split) <;> omega
 have g:pairsOk (monD c n).Pairs (monStates c.Kind:Int)=true:=by
  show pairsOk [monPair c.Kind] _=true
  unfold monPair monStates
  rcases kinds b d with h|h|h|h|h|h|h <;> rw[h] <;> decide
 have j:((monD c n).Next.all (detRow p (monStates c.Kind:Int)))=true:=by
  rw[Gc]
  intro row k
  obtain⟨q,i,rfl⟩:=FH.1 (show row∈(numsN (monStates c.Kind)).map (monRow c n) from k)
  obtain⟨o,e,rfl⟩:=FH.1 i
  rw[List.mem_range]at e
  unfold detRow monRow
  rw[Gg,jw,ra,Gc]
  refine⟨by rw[beq_iff_eq];unfold ltd;unfold ltr at a;exact a.symm,λx l=>?_⟩
  obtain⟨r,_,rfl⟩:=FH.1 l
  exact gQ.2 (za b d (by omega) (by omega) _ _)
 rw[g,j,decide_eq_true (by omega),decide_eq_true (by omega)];rfl
end
def kyJ (a b:Det) (v:Key) (x:Int):Key:=(tab a.Next v.1 x,tab b.Next v.2 x)
def toL (v:Key):VI:=[v.1,v.2]
def plP (part:Key->Int) (K:List Key) (p:Pair):Pair:=⟨plK part K p.Ask K.length,plK part K p.Give K.length⟩
def jD (a b:Det) (K:List Key) (R:VV):Det:=⟨R,a.Pairs.map (plP (·.1) K)++b.Pairs.map (plP (·.2) K)⟩
def zeroD:Det:=⟨[],[]⟩
def locI (K:List Key) (k:Key):Int:=match loc K k with | some a=>(a:Int) | none=> -1
theorem As {α:Type}{F:List Key->Int->Option α}{K:List Key}{k:Key}{app:Option (List Key)}(ha:app=some (K++[k])):
 (FR (bif decide (locI K k<0) then FR app λx=>some (x,(K.length:Int)) else some (K,locI K k)) λa=>F a.1 a.2)=F (addK K k) (atK K k):=by
 unfold locI addK atK
 cases h:loc K k with
 |none=>
  dsimp only
  rw[decide_eq_true (by omega),cond_true,ha];rfl
 |some b=>
  dsimp only
  rw[decide_eq_false (by omega),cond_false];rfl
theorem BP {K:List Key}(c:K.length<=1000) (k:Key):nN (K.map toL) k.1 k.2=some (locI K k):=by
 unfold nN
 rw[gE (f:=jX (K.map toL) k.1 k.2) (λb=>b==toL k) (λe=>(e:Int)) (xs:=K.map toL) (λe b c=>by
  rw[FA]at c
  obtain⟨a,l,rfl⟩:=Option.map_eq_some_iff.1 c
  unfold jX
  rw[bT,FA,l]
  show FR (some (toL a)) _=_
  rw[GA]
  show FR (some a.1) _=_
  rw[GA]
  have g:(toL a==toL k)=(a.1==k.1&&a.2==k.2):=by
   rw[F6]
   simp[toL]
  rw[g]
  cases h1:a.1==k.1 with
  |false=>rfl
  |true=>
   rw[cond_true]
   show FR (FR (some (toL a)) λm=>FR (idx m 1) λd=>some (d==k.2)) _=_
   rw[GA]
   show FR (FR (some a.2) λd=>some (d==k.2)) _=_
   rw[GA,GA]
   cases a.2==k.2 <;> rfl),GA]
 unfold locI loc
 have j:(K.map toL).findIdx? (λb=>b==toL k)=K.findIdx? (λx=>k==x):=by
  rw[List.findIdx?_map]
  congr 1
  funext a
  rw[F6]
  simp only[Function.comp_apply,beq_iff_eq,toL,List.cons.injEq,and_true]
  exact⟨λ⟨h1,i⟩=>Prod.ext h1.symm i.symm,λh=>by rw[h];exact⟨rfl,rfl⟩⟩
 rw[j]
 cases K.findIdx? (λx=>k==x) <;> rfl
theorem Bs {K:List Key}(k:Key):dh K k=some (locI K k):=by
 unfold dh
 rw[gE (f:=c7 K k) (λx=>k==x) (λa=>(a:Int)) (xs:=K) (λa x d=>by
  unfold c7
  rw[bT,d,GA]
  have b:(k.1==x.1&&k.2==x.2)=(k==x):=by
   rw[F6]
   simp only[ra,beq_iff_eq]
   exact⟨λ⟨h1,c⟩=>Prod.ext h1 c,λh=>by rw[h];exact⟨rfl,rfl⟩⟩
  first
   |rw[b]
   |skip
  cases k==x <;> rfl),GA]
 unfold locI loc
 cases K.findIdx? (λx=>k==x) <;> rfl
section
variable {p:Sig}{a b:Det}(ha:detOk p a=true) (hb:detOk p b=true){k:Nat}(hk:ltd p=k)
include ha hb hk
theorem y7 {v:Key}(r:0<=v.1) (s:v.1<a.Next.length) (t:0<=v.2) (u:v.2<b.Next.length){x:Nat}(w:x<k):
 ∃c d,idx a.Next v.1=some c/\idx c (x:Int)=some (kyJ a b v x).1/\idx b.Next v.2=some d/\idx d (x:Int)=some (kyJ a b v x).2/\0<=(kyJ a b v x).1/\(kyJ a b v x).1<a.Next.length/\0<=(kyJ a b v x).2/\(kyJ a b v x).2<b.Next.length:=by
 obtain⟨_,_,_,e⟩:=eb ha
 obtain⟨_,_,_,f⟩:=eb hb
 obtain⟨c,g,j,l,m⟩:=r8 e r s (i:=(x:Int)) (by omega) (by omega)
 obtain⟨d,n,o,p,q⟩:=r8 f t u (i:=(x:Int)) (by omega) (by omega)
 exact⟨c,d,g,j,n,o,l,m,p,q⟩
def KinJ (a b:Det) (K:List Key):Prop:=∀c∈K,0<=c.1/\c.1<a.Next.length/\0<=c.2/\c.2<b.Next.length
theorem Dr {K:List Key}(c:KinJ a b K){v:Key}(f:v∈K):KinJ a b (rowK (kyJ a b v) K k).1:=λu d=>by
 obtain⟨g,j,l,m⟩:=c v f
 rcases(nt (kyJ a b v) K k).mem u d with h|⟨i,hi,e⟩
 .exact c u h
 .subst e
  obtain⟨_,_,_,_,_,_,h⟩:=y7 ha hb hk g j l m hi
  exact h
theorem D2 {K:List Key}(E:K.length<=48) (D:k<=16) (o:KinJ a b K){i:Nat}{v:Key}(j:K[i]? =some v){R:VV}{row:VI}(q:idx a.Next v.1=some row) (H:row.length=k):
 cntM (gc b (K,(i:Int),R) row) k 0 (K,[])=some (.inr (rowK (kyJ a b v) K k)):=by
 obtain⟨w,y,z,A⟩:=o v (FI j)
 obtain⟨d,h1,n,_⟩:=cg (f:=gc b (K,(i:Int),R) row) (λc d=>d=rowK (kyJ a b v) K c/\c<=k) k (s:=(K,[])) ⟨rfl,Gz _⟩ (λc d g ⟨m,_⟩=>by
  subst m
  obtain⟨L,d,l,s,t,u,_⟩:=y7 ha hb hk w y z A g
  rw[q]at l
  cases l
  have e:=nt (kyJ a b v) K c
  have G:=e.le
  have I:=e.rl
  refine⟨rowK (kyJ a b v) K (c+1),?_,rfl,g⟩
  unfold gc
  dsimp only
  rw[s,GA,bT,e.pre i v j,GA,t,GA,u,GA]
  have p:=Bs (K:=(rowK (kyJ a b v) K c).1) (kyJ a b v c)
  rw[show((kyJ a b v c).1,(kyJ a b v c).2)=kyJ a b v c from rfl,p,GA]
  have r:=As (K:=(rowK (kyJ a b v) K c).1) (k:=kyJ a b v c) (F:=λx C=>FR (appS 8 (rowK (kyJ a b v) K c).2 [C]) λB=>(some (.inr (.inr (x,B))):Option ((Det×Bool)⊕((List Key×VI)⊕(List Key×VI))))) (app:=appS 16 (rowK (kyJ a b v) K c).1 [kyJ a b v c]) (app1 (by omega) rfl)
  refine Eq.trans r ?_
  show FR (appS 8 (rowK (kyJ a b v) K c).2 [_]) _=_
  rw[app1 (by omega) rfl,GA]
  rfl)
 rw[h1,n]
theorem EJ {K:List Key}(I:K.length<=48) (H:k<=16) (t:KinJ a b K){i:Nat}{v:Key}(m:K[i]? =some v){M:VV}{R:VV}:
 cntM (gB a b (M,(i:Int),R)) k 0 (K.map toL,[])=some (.inr ((rowK (kyJ a b v) K k).1.map toL,(rowK (kyJ a b v) K k).2)):=by
 obtain⟨A,B,C,D⟩:=t v (FI m)
 obtain⟨e,h1,s,_⟩:=cg (f:=gB a b (M,(i:Int),R)) (λc e=>e=((rowK (kyJ a b v) K c).1.map toL,(rowK (kyJ a b v) K c).2)/\c<=k) k (s:=(K.map toL,[])) ⟨rfl,Gz _⟩ (λc e l ⟨n,_⟩=>by
  subst n
  obtain⟨O,e,u,w,y,z,_⟩:=y7 ha hb hk A B C D l
  have g:=nt (kyJ a b v) K c
  have L:=g.le
  have N:=g.rl
  refine⟨((rowK (kyJ a b v) K (c+1)).1.map toL,(rowK (kyJ a b v) K (c+1)).2),?_,rfl,l⟩
  unfold gB
  dsimp only
  have p:idx ((rowK (kyJ a b v) K c).1.map toL) (i:Int)=some (toL v):=by
   rw[bT,FA,g.pre i v m];rfl
  have q:idx (toL v) 0=some v.1:=rfl
  have r:idx (toL v) 1=some v.2:=rfl
  rw[p,GA,q,GA,u,GA,w,GA,GA,r,GA,y,GA,z,GA,BP (by omega),GA]
  have d:=As (K:=(rowK (kyJ a b v) K c).1) (k:=kyJ a b v c) (F:=λx G=>FR (appS 8 (rowK (kyJ a b v) K c).2 [G]) λE=>(some (.inr (.inr (x.map toL,E))):Option ((Det×Bool)⊕((VV×VI)⊕(VV×VI))))) (app:=some ((rowK (kyJ a b v) K c).1++[kyJ a b v c])) rfl
  rw[app1 (by omega) rfl]at d
  have o:appS 24 ((rowK (kyJ a b v) K c).1.map toL) [[(kyJ a b v c).1,(kyJ a b v c).2]]=some (((rowK (kyJ a b v) K c).1++[kyJ a b v c]).map toL):=by
   rw[app1 (by rw[Gg];omega) rfl,FF];rfl
  rw[o,Gg]
  rw[GA]at d
  cases j:decide (locI (rowK (kyJ a b v) K c).1 (kyJ a b v c)<0) with
  |true=>
   rw[j]at d
   simp only[cond_true,GA]at d ⊢
   exact d
  |false=>
   rw[j]at d
   simp only[cond_false,GA]at d ⊢
   exact d)
 rw[h1,s]
end
theorem conI (l:VI) (v:Int):ca l v=some (decide (v∈l)):=by
 rw[cP]
 congr 1
 rw[F6,List.any_eq_true,decide_eq_true_eq]
 exact⟨λ⟨c,b,a⟩=>(show v=c by simpa using a) ▸ b,λh=>⟨_,h,by simp⟩⟩
theorem qN {part:Key->Int}{K:List Key}{S:VI}{j:Nat}{v:Key}(b:K[j]? =some v) (c:j<=1000):(bif decide (part v∈S) then FR (appS 8 (plK part K S j) [(j:Int)]) λx=>some x else some (plK part K S j))=some (plK part K S (j+1)):=by
 have d:=Ah part K S j
 have a:plK part K S (j+1)=plK part K S j++(match K[j]? with | some v=>if part v∈S then[(j:Int)] else[] | none=>[]):=rfl
 rw[a,b]
 dsimp only
 by_cases h:part v∈S
 .rw[decide_eq_true h,cond_true,app1 (by omega) rfl,if_pos h];rfl
 .rw[decide_eq_false h,cond_false,if_neg h,List.append_nil]
theorem yu {K:List Key}(s:K.length<=300) (ps:VP) (t:ps.length<=4) (w:Bool):lA ps (K.map toL) (b01 w)=some (ps.map (plP (λa=>bif w then a.2 else a.1) K)):=by
 unfold lA
 obtain⟨b,h1,o⟩:=cg (f:=jV ps (K.map toL) (b01 w)) (λd b=>b=(ps.take d).map (plP (λa=>bif w then a.2 else a.1) K)) ps.length (s:=[]) rfl (λd b q hs=>by
  subst hs
  have g:ps[d]? =some ps[d]:=ct q
  generalize ps[d]=p at g
  obtain⟨u,r,k⟩:=cg (f:=jW ps (K.map toL) (b01 w) (d:Int)) (λc b=>b=(plK (λa=>bif w then a.2 else a.1) K p.Ask c,plK (λa=>bif w then a.2 else a.1) K p.Give c)) (K.map toL).length (s:=([],[])) rfl (λc b j hs=>by
   subst hs
   rw[Gg]at j
   have e:K[c]? =some K[c]:=ct j
   generalize K[c]=a at e
   have n:idx (K.map toL) (c:Int)=some (toL a):=by rw[bT,FA,e];rfl
   have i:idx (toL a) (b01 w)=some (bif w then a.2 else a.1):=by cases w <;> rfl
   have l:=qN (part:=λa=>bif w then a.2 else a.1) (S:=p.Ask) e (by omega)
   have m:=qN (part:=λa=>bif w then a.2 else a.1) (S:=p.Give) e (by omega)
   unfold jW
   dsimp only at l m ⊢
   rw[bT,g,GA,n,GA,i,GA,ut,GA,l,GA,GA,GA,i,GA,ut,GA,m,GA]
   exact⟨_,rfl,rfl⟩)
  rw[Gg]at k
  unfold jV
  rw[r,GA,bV,k]
  dsimp only
  rw[app1 (by rw[Gg,FE];omega) rfl,GA]
  exact⟨_,rfl,by rw[Gv,g,FF];rfl⟩)
 rw[h1,GA,bV,o,Gx]
theorem xL {K:List Key}(v:K.length<=300){ii:Int}{R:VV}(a b:Det) (w:Bool) (ps:VP) (g:VP) (x:g.length+ps.length<=8) (X:Det) (q:X.Pairs=ps):cntM (ec (K,ii,R) (b01 w) X) ps.length 0 g=some (.inr (g++ps.map (plP (λc=>bif w then c.2 else c.1) K))):=by
 obtain⟨d,h1,o⟩:=cg (f:=ec (K,ii,R) (b01 w) X) (λi d=>d=g++(ps.take i).map (plP (λc=>bif w then c.2 else c.1) K)) ps.length (s:=g) (by simp) (λi d s hs=>by
  subst hs
  have k:ps[i]? =some ps[i]:=ct s
  generalize ps[i]=p at k
  obtain⟨y,t,u⟩:=cg (f:=iU (K,ii,R) (b01 w) p) (λe d=>d=(plK (λc=>bif w then c.2 else c.1) K p.Ask e,plK (λc=>bif w then c.2 else c.1) K p.Give e)) K.length (s:=([],[])) rfl (λe d r hs=>by
   subst hs
   have j:K[e]? =some K[e]:=ct r
   generalize K[e]=c at j
   have n:idx [c.1,c.2] (b01 w)=some (bif w then c.2 else c.1):=by cases w <;> rfl
   have l:=qN (part:=λc=>bif w then c.2 else c.1) (S:=p.Ask) j (by omega)
   have m:=qN (part:=λc=>bif w then c.2 else c.1) (S:=p.Give) j (by omega)
   unfold iU
   dsimp only at l m ⊢
   rw[bT,j,GA,n,GA,conI,GA,l,GA,GA,conI,GA,m,GA]
   exact⟨_,rfl,rfl⟩)
  unfold ec
  dsimp only
  rw[q,bT,k,GA,t,GA,bV,u]
  dsimp only
  rw[app1 (by rw[C9,Gg,FE];omega) rfl,GA]
  exact⟨_,rfl,by rw[Gv,k,FF,List.append_assoc];rfl⟩)
 rw[h1,o,Gx]
section
variable {p:Sig}{a b:Det}(hs:sigOk p=true) (ha:detOk p a=true) (hb:detOk p b=true) (hsum:a.Pairs.length+b.Pairs.length<=4){k:Nat}(hk:ltd p=k)
include hs ha hb hsum hk
structure JK (a b:Det) (k:Nat) (K:List Key) (R:VV):Prop where
 prod:Prod (kyJ a b) k K K.length R
 kin:KinJ a b K
 le:K.length<=48
theorem xP:(gA a b (k:Int)=some (zeroD,false)/\j5 a b=some (zeroD,false)/\48<a.Next.length * b.Next.length)\/∃c R,JK a b k c R/\gA a b (k:Int)=some (jD a b c R,true)/\j5 a b=some (jD a b c R,true):=by
 obtain⟨Z,aa,ab,N⟩:=eb ha
 obtain⟨ac,ad,ae,ah⟩:=eb hb
 have s:k<=16:=by have:=rJ hs;unfold ltr at this;unfold ltd at hk;omega
 have K:rng (k:Int)=some ():=by unfold rng;rw[if_pos (by omega)]
 obtain⟨O,m,X,Y,r⟩:=sb (f:=jl a b (k:Int)) (g:=iT a b) (λl m=>∃c e R,l=(c.map toL,((e:Nat):Int),R)/\m=(c,((e:Nat):Int),R)/\Prod (kyJ a b) k c e R/\KinJ a b c/\c.length<=48) (λl=>100-l.2.1.toNat) (λz A=>z=(zeroD,false)/\A=(zeroD,false)/\48<a.Next.length * b.Next.length) (λl m=>∃c e R,l=(c.map toL,((e:Nat):Int),R)/\m=(c,((e:Nat):Int),R)/\Prod (kyJ a b) k c e R/\KinJ a b c/\c.length<=48/\e=c.length) (λl m ⟨c,e,R,o,p,n,j,q⟩=>by
  subst o p
  unfold jl iT
  dsimp only
  rw[Gg]
  by_cases H:e<c.length
  .have i:c[e]? =some c[e]:=ct H
   generalize c[e]=d at i
   obtain⟨V,W,ai,aj⟩:=j d (FI i)
   obtain⟨row,w,I⟩:=g8 (xs:=a.Next) V W
   have v:row.length=k:=by have:=(N row I).1;omega
   have o:=EJ ha hb hk q s j i (M:=c.map toL) (R:=R)
   have p:=D2 ha hb hk q s j i (R:=R) w v
   have U:=nt (kyJ a b d) c k
   have t:=Dr ha hb hk j (FI i)
   have u:=n.step i
   generalize rowK (kyJ a b d) c k=G at *
   have ag:=U.le
   have af:=n.rl
   rw[decide_eq_true (show(e:Int)<(c.length:Int) by omega),cond_true,cond_true,K,GA,Int.sub_zero,Gb,o,GA,bV,bT,i,GA,w,GA,v,p,GA,bV]
   dsimp only
   rw[Gg]
   by_cases F:48<G.1.length
   .rw[decide_eq_true (show(48:Int)<(G.1.length:Int) by omega),cond_true,cond_true]
    exact⟨_,_,rfl,rfl,rfl,rfl,Nat.lt_of_lt_of_le F (xQ u.nod t)⟩
   .rw[decide_eq_false (show ¬(48:Int)<(G.1.length:Int) by omega),cond_false,cond_false,app1 (by omega) rfl,GA,GA,wr' (by omega) (by omega)]
    refine⟨_,_,rfl,rfl,⟨G.1,e+1,R++[G.2],rfl,rfl,u,t,by omega⟩,?_⟩
    dsimp only;omega
  .rw[decide_eq_false (show ¬(e:Int)<(c.length:Int) by omega),cond_false,cond_false]
   have:=n.il
   exact⟨_,_,rfl,rfl,c,e,R,rfl,rfl,n,j,q,by omega⟩) (2 ^ 64) (2 ^ 64) ([[0,0]],0,[]) ([(0,0)],0,[]) (by dsimp only;omega) (by dsimp only;omega) ⟨[(0,0)],0,[],rfl,rfl,Prod.init _ _,λd i=>by
    rw[E7]at i
    subst i
    exact⟨Ga _,by dsimp only;omega,Ga _,by dsimp only;omega⟩,by simp⟩
 have L:decide ((4:Int)<FW .i64 ((a.Pairs.length:Int)+(b.Pairs.length:Int)))=false:=by
  rw[wr' (by omega) (by omega)]
  exact decide_eq_false (by omega)
 unfold gA j5
 rw[L,cond_false,X,Y,GA,GA]
 match O,m,r with
 |.inl z,.inl A,r=>
  left
  rw[r.1,r.2.1]
  exact⟨rfl,rfl,r.2.2⟩
 |.inr l,.inr m,⟨c,e,R,o,p,n,j,q,E⟩=>
  right
  subst o p E
  refine⟨c,R,⟨n,j,q⟩,?_,?_⟩
  .rw[bV]
   dsimp only
   have x:=yu (K:=c) (by omega) a.Pairs (by omega) false
   have y:=yu (K:=c) (by omega) b.Pairs (by omega) true
   rw[show b01 false=0 from rfl]at x
   rw[show b01 true=1 from rfl]at y
   rw[x,GA,y,GA,appL (by simp;omega) rfl,GA]
   rfl
  .rw[bV]
   have P:=xL (K:=c) (by omega) (ii:=((c.length:Nat):Int)) (R:=R) a b false a.Pairs [] (by simp;omega) a rfl
   have S:=xL (K:=c) (by omega) (ii:=((c.length:Nat):Int)) (R:=R) a b true b.Pairs ([]++a.Pairs.map (plP (λd=>bif false then d.2 else d.1) c)) (by simp;omega) b rfl
   have B:dt a b (c,((c.length:Nat):Int),R) 0 []=some (.inr (.inr ([]++a.Pairs.map (plP (λd=>bif false then d.2 else d.1) c)))):=by
    unfold dt
    rw[show idx [a,b] 0=some a from rfl,GA]
    have Q:cntM (ec (c,((c.length:Nat):Int),R) 0 a) a.Pairs.length 0 []=_:=P
    rw[Q,GA,bV]
   have C:dt a b (c,((c.length:Nat):Int),R) 1 ([]++a.Pairs.map (plP (λd=>bif false then d.2 else d.1) c))=some (.inr (.inr (([]++a.Pairs.map (plP (λd=>bif false then d.2 else d.1) c))++b.Pairs.map (plP (λd=>bif true then d.2 else d.1) c)))):=by
    unfold dt
    rw[show idx [a,b] 1=some b from rfl,GA]
    have T:cntM (ec (c,((c.length:Nat):Int),R) 1 b) b.Pairs.length 0 _=_:=S
    rw[T,GA,bV]
   have D:cntM (dt a b (c,((c.length:Nat):Int),R)) [a,b].length 0 []=some (.inr (([]++a.Pairs.map (plP (λd=>bif false then d.2 else d.1) c))++b.Pairs.map (plP (λd=>bif true then d.2 else d.1) c))):=by
    show FR (dt a b (c,((c.length:Nat):Int),R) 0 []) _=_
    rw[B,GA]
    show FR (dt a b (c,((c.length:Nat):Int),R) (0+1) _) _=_
    rw[show(0:Int)+1=1 from rfl,C,GA]
    rfl
   rw[D,GA,bV]
   rfl
end
theorem ER {p:Sig}{a b:Det}(hsum:a.Pairs.length+b.Pairs.length<=4){k:Nat}(hk:ltd p=k){K:List Key}{R:VV}(h:JK a b k K R):detOk p (jD a b K R)=true:=by
 have v:=h.le
 have h0:=(C7.1 h.prod.zero).1
 have m:(jD a b K R).Next.length=K.length:=h.prod.rl
 unfold detOk
 rw[m,decide_eq_true (show(1:Int)<=(K.length:Int) by omega),decide_eq_true (show(K.length:Int)<=48 by omega)]
 have j:pairsOk (jD a b K R).Pairs (K.length:Int)=true:=by
  unfold pairsOk
  rw[ra,decide_eq_true_eq,Gc]
  refine⟨?_,λx d=>?_⟩
  .show(((a.Pairs.map _++b.Pairs.map _).length:Nat):Int)<=4
   rw[C9,Gg,Gg];omega
  .unfold pairOk
   have:∀e:Key->Int,∀c:Pair,x=plP e K c->(dj (K.length:Int) x.Ask&&dj (K.length:Int) x.Give)=true:=λe c f=>by
    subst f
    show(dj _ (plK e K c.Ask K.length)&&dj _ (plK e K c.Give K.length))=true
    rw[(zd e K c.Ask K.length).ok (Ga _),(zd e K c.Give K.length).ok (Ga _)];rfl
   rcases E4.1 (show x∈a.Pairs.map (plP (·.1) K)++b.Pairs.map (plP (·.2) K) from d) with d|d
   .obtain⟨c,_,f⟩:=FH.1 d;exact this _ c f.symm
   .obtain⟨c,_,f⟩:=FH.1 d;exact this _ c f.symm
 have l:((jD a b K R).Next.all (detRow p (K.length:Int)))=true:=by
  rw[Gc]
  intro row o
  obtain⟨r,n⟩:=Gf (show row∈R from o)
  obtain⟨w,z,y,s⟩:=h.prod.row r row n
  unfold detRow
  rw[ra,Gc,beq_iff_eq]
  refine⟨by omega,λx d=>gQ.2 ?_⟩
  obtain⟨q,g⟩:=Gf d
  have u:=(C7.1 g).1
  obtain⟨c,i,A,t⟩:=s q (by omega)
  rw[g]at i
  cases i
  have:=(C7.1 t).1
  omega
 rw[j,l];rfl
def oneD (n:Nat):Det:=⟨[FK n 0],[]⟩
inductive PR (n:Nat):VC->Det->Prop
 |nil:PR n [] (oneD n)
 |snoc {cs c D K R} (h:PR n cs D) (k:JK D (monD c n) n K R):PR n (cs++[c]) (jD D (monD c n) K R)
theorem BK (c:Clause) (n:Nat):(monD c n).Next.length<=4:=by
 show((numsN _).map _).length<=4
 rw[Gg,jw]
 unfold monStates
 (repeat' split) <;> omega
theorem PR.size {n:Nat}{a:VC}{D:Det}(h:PR n a D):D.Next.length<=4 ^ a.length:=by
 induction h with
 |nil=>exact Fg _
 | @snoc a c D d R e k b=>
  show R.length<=_
  rw[k.prod.rl,C9]
  exact Nat.le_trans (xQ k.prod.nod k.kin) (by show _<=4 ^ (a.length+1);rw[Nat.pow_succ];exact Nat.mul_le_mul b (BK c n))
def dI (p:Sig) (a:VC):Bool:=decide ((a.length:Int)<=3)&&a.all (cK p)
theorem C3 {p:Sig}(hs:sigOk p=true){n:Nat}(a:ltd p=n):detOk p (oneD n)=true:=by
 have h:=rJ hs
 unfold ltr at h
 unfold ltd at a
 unfold detOk oneD
 have c:([FK n (0:Int)].all (detRow p ((1:Nat):Int)))=true:=by
  rw[Gc]
  intro row b
  rw[E7]at b
  subst b
  unfold detRow ltd
  rw[List.length_replicate,ra,beq_iff_eq,Gc]
  refine⟨a.symm,λx d=>?_⟩
  rw[(List.mem_replicate.1 d).2]
  exact gQ.2 ⟨Ga _,by omega⟩
 show(decide ((1:Int)<=((1:Nat):Int))&&decide (((1:Nat):Int)<=48)&&pairsOk [] ((1:Nat):Int)&&([FK n (0:Int)].all (detRow p ((1:Nat):Int))))=true
 rw[c];rfl
theorem qg (p:Sig){a:VC}(hb:∀c∈a,Clause.bd c):(cU p a=some (zeroD,false)/\db p a=some (zeroD,false)/\(sigOk p=true->dI p a=true->2<a.length)) \/
 (sigOk p=true/\dI p a=true/\∃n D,ltd p=((n:Nat):Int)/\n<=16/\PR n a D/\detOk p D=true/\D.Pairs.length=a.length/\cU p a=some (D,true)/\db p a=some (D,true)):=by
 unfold cU db
 rw[jv]
 cases hs:sigOk p with
 |false=>
  left
  have:iF p a=some false:=by
   unfold iF
   rw[iw,hs];rfl
  rw[this]
  exact⟨rfl,rfl,λh=>by cases h⟩
 |true=>
  rw[uj hs hb,GA,GA,F7,cond_false,sE hs hb,GA,GA]
  show _\/(_/\dI p a=true/\_)
  have K:(decide ((a.length:Int)<=3)&&a.all (cK p))=dI p a:=rfl
  rw[K]
  cases hc:dI p a with
  |false=>exact .inl ⟨rfl,rfl,λ_ h=>by cases h⟩
  |true=>
   have k:=hc
   unfold dI at k
   rw[ra,decide_eq_true_eq,Gc]at k
   obtain⟨ad,ae⟩:=rJ hs
   obtain⟨n,e⟩:=dD (z:=ltr p) (by omega)
   have s:ltd p=(n:Int):=e
   have M:mkS 8 (n:Int) (0:Int)=some (FK n 0):=dq (by omega) rfl
   have N:=C3 hs s
   rw[F7,cond_false,cond_false,jf hs,lb hs,e,GA,GA,M,GA,GA]
   obtain⟨E,i,P,S,m⟩:=tt (f:=gw p a) (g:=fQ p a) (λd b i=>b=i/\PR n (a.take d) ⟨b.1,b.2⟩/\detOk p ⟨b.1,b.2⟩=true/\b.2.length=d) (λG H=>G=(zeroD,false)/\H=(zeroD,false)/\2<a.length) (λ_ _=>False) a.length (λd b i L ⟨t,j,l,u⟩=>by
    subst t
    have q:a[d]? =some a[d]:=ct L
    generalize a[d]=c at q
    have r:=FI q
    obtain⟨A,F⟩:=CZ (k.2 c r) e
    have hsum:(⟨b.1,b.2⟩:Det).Pairs.length+(monD c n).Pairs.length<=4:=by
     rw[F]
     show b.2.length+1<=4
     omega
    unfold gw fQ
    rw[bT,q,GA,GA,A1 hs (hb c r) (k.2 c r) e,AD hs (k.2 c r) e,GA,GA]
    have I:lY p ⟨b.1,b.2⟩ (monD c n)=gA ⟨b.1,b.2⟩ (monD c n) (n:Int):=by
     have C:∀D:Det,detOk p D=true->∀x∈D.Pairs,x.Ask.length<=1000000000/\x.Give.length<=1000000000:=λD o x O=>by
      obtain⟨Z,aa,_,_⟩:=eb o
      unfold detOk at o
      simp only[ra]at o
      have v:=o.1.2
      unfold pairsOk at v
      rw[ra,Gc]at v
      have:=v.2 x O
      unfold pairOk at this
      rw[ra]at this
      have X:=(St.of this.1).len
      have Y:=(St.of this.2).len
      omega
     unfold lY
     rw[lW hs (C _ l),l,GA,F7,cond_false,lW hs (C _ A),A,GA,F7,GA,cond_false,wr' (by omega) (by omega),decide_eq_false (by omega),GA,cond_false,jf hs,e,GA]
     cases gA ⟨b.1,b.2⟩ (monD c n) (n:Int) <;> rfl
    rw[I]
    rcases xP hs l A hsum s with ⟨w,y,ac⟩|⟨W,R,B,w,y⟩
    .rw[w,y]
     refine⟨_,_,rfl,rfl,rfl,rfl,?_⟩
     have U:=j.size
     have V:(monD c n).Next.length<=4:=BK c n
     rw[FE,Nat.min_eq_left (by omega)]at U
     by_cases ab:d<2
     .exfalso
      have af:4 ^ d<=4 ^ 1:=Nat.pow_le_pow_right (by omega) (by omega)
      have ag:(⟨b.1,b.2⟩:Det).Next.length * (monD c n).Next.length<=4 * 4:=Nat.mul_le_mul (by omega) V
      omega
     .omega
    .rw[w,y]
     refine⟨_,_,rfl,rfl,rfl,?_,ER hsum s B,?_⟩
     .rw[Gv,q]
      exact PR.snoc j B
     .show((b.2.map _++(monD c n).Pairs.map _).length)=_
      rw[C9,Gg,Gg,u,F]) a.length 0 ([FK n 0],[]) ([FK n 0],[]) (by omega) ⟨rfl,PR.nil,N,rfl⟩
   have Q:cntM (gw p a) a.length 0 ([FK n 0],[])=some E:=P
   have T:cntM (fQ p a) a.length 0 ([FK n 0],[])=some i:=S
   rw[Q,T,GA,GA]
   match E,i,m with
   |.inl G,.inl H,m=>
    left
    rw[m.1,m.2.1]
    exact⟨rfl,rfl,λ_ _=>m.2.2⟩
   |.inr b,.inr i,.inl ⟨t,j,l,u⟩=>
    right
    subst t
    rw[Gx]at j
    exact⟨rfl,rfl,n,⟨b.1,b.2⟩,s,by omega,j,l,u,rfl,rfl⟩
end Go.Proofs.YtldlmopdhmaceaaGreatDoor
namespace Go.Proofs.YtldlmopdhmaceaaGreatDoor.Par
section
open Classical
structure Gm where
 own:Int->Bool
 pri:Int->Int
 E:Int->Int->Prop
variable (G:Gm)
def oddP (d:Int):Bool:=decide (d % 2=1)
def Play (p:Bool) (D:Int->Prop) (a:Int->Int) (π:Nat->Int):Prop:=∀n,D (π n)/\G.E (π n) (π (n+1))/\(G.own (π n)=p->π (n+1)=a (π n))
def Wins (p:Bool) (π:Nat->Int):Prop:=∃d,oddP d=p/\(∀N,∃n,N<=n/\G.pri (π n)=d)/\∃N,∀n,N<=n->G.pri (π n)<=d
def Dom (X:Int->Prop) (p:Bool) (D:Int->Prop):Prop:=∃b:Int->Int,(∀a,D a->X a)/\(∀a,D a->G.own a=p->G.E a (b a)/\D (b a))/\(∀a u,D a->¬G.own a=p->G.E a u->X u->D u)/\∀c,Play G p D b c->Wins G p c
def NoDead (X:Int->Prop):Prop:=∀a,X a->∃u,G.E a u/\X u
structure IsAttr (X:Int->Prop) (p:Bool) (S A:Int->Prop):Prop where
 sub:∀v,A v->X v
 base:∀v,X v->S v->A v
 rank:∃r:Int->Nat,∀v,A v->S v\/(G.own v=p/\∃u,G.E v u/\A u/\r u<r v)\/(¬G.own v=p/\∀u,G.E v u->X u->A u/\r u<r v)
 mine:∀v u,X v->¬A v->G.own v=p->G.E v u->X u->¬A u
 yours:∀v,X v->¬A v->¬G.own v=p->∃u,G.E v u/\X u/\¬A u
def Mn (X A:Int->Prop):Int->Prop:=λa=>X a/\¬A a
variable {G}{X:Int->Prop}{p:Bool}{S A D D':Int->Prop}
theorem Wins.tail {π:Nat->Int}(k:Nat) (h:Wins G p (λn=>π (n+k))):Wins G p π:=by
 obtain⟨d,h1,a,N,b⟩:=h
 refine⟨d,h1,λM=>?_,N+k,λn e=>?_⟩
 .obtain⟨n,e,c⟩:=a M
  exact⟨n+k,by omega,c⟩
 .have:=b (n-k) (by omega)
  dsimp only at this
  rwa [show n-k+k=n from by omega]at this
theorem Wins.not_both {π:Nat->Int}(h:Wins G p π) (j:Wins G (!p) π):False:=by
 obtain⟨d,b,c,N,e⟩:=h
 obtain⟨i,a,f,M,g⟩:=j
 obtain⟨n,m,q⟩:=c M
 obtain⟨k,l,o⟩:=f N
 have:=g n m
 have:=e k l
 have:d=i:=by omega
 subst this
 rw[b]at a
 cases p <;> cases a
theorem Play.tail {a:Int->Int}{π:Nat->Int}(h:Play G p D a π) (k:Nat):Play G p D a (λn=>π (n+k)):=λn=>by
 have:=h (n+k)
 rwa [show n+k+1=n+1+k from by omega]at this
theorem Dom.disj (h:Dom G X p D) (B:Dom G X (!p) D'){v:Int}(C:D v) (E:D' v):False:=by
 obtain⟨o,r,s,t,u⟩:=h
 obtain⟨q,w,y,z,A⟩:=B
 let c:Int->Int:=λv=>if G.own v=p then o v else q v
 let f:Nat->Int:=λn=>Nat.rec v (λ_ x=>c x) n
 have hs:∀n,f (n+1)=c (f n):=λn=>rfl
 have j:∀a,D a->D' a->G.E a (c a)/\D (c a)/\D' (c a):=λa k l=>by
  by_cases b:G.own a=p
  .have i:c a=o a:=if_pos b
   obtain⟨g,d⟩:=s a k b
   rw[i]
   exact⟨g,d,z a _ l (by rw[b];cases p <;> simp) g (r _ d)⟩
  .have i:c a=q a:=if_neg b
   obtain⟨g,d⟩:=y a l (by revert b;cases G.own a <;> cases p <;> simp)
   rw[i]
   exact⟨g,t a _ k b g (w _ d),d⟩
 have e:∀n,D (f n)/\D' (f n):=λn=>by
  induction n with
  |zero=>exact⟨C,E⟩
  |succ n m=>
   obtain⟨_,d,F⟩:=j _ m.1 m.2
   rw[hs];exact⟨d,F⟩
 refine(u f λn=>⟨(e n).1,by rw[hs];exact(j _ (e n).1 (e n).2).1,λb=>by rw[hs];exact if_pos b⟩).not_both (A f λn=>⟨(e n).2,by rw[hs];exact(j _ (e n).1 (e n).2).1,λb=>by rw[hs];exact if_neg (by rw[b];cases p <;> simp)⟩)
theorem Dom.empty:Dom G X p (λ_=>False):=⟨id,λ_ h=>h.elim,λ_ h=>h.elim,λ_ _ h=>h.elim,λa h=>(h 0).1.elim⟩
theorem Dom.congr (h:Dom G X p D) (b:∀a,D a↔D' a):Dom G X p D':=by
 have:D=D':=funext λa=>propext (b a)
 exact this ▸ h
theorem descent {r:Nat->Nat}(h:∀n,r (n+1)<r n):False:=by
 have:∀n,r n+n<=r 0:=λn=>by
  induction n with
  |zero=>omega
  |succ n a=>have:=h n;omega
 have:=this (r 0+1)
 omega
theorem Dom.grow (h1:Dom G X p D) (m:IsAttr G X p D A) (V:Dom G (Mn X A) p D'):Dom G X p (λa=>A a\/D' a):=by
 obtain⟨P,R,v,E,S⟩:=h1
 obtain⟨Q,w,F,T,U⟩:=V
 obtain⟨i,C⟩:=m.rank
 have z:∀a,D a->A a:=λa j=>m.base a (R a j) j
 let l:Int->Int:=λa=>if D a then P a else if h:∃u,G.E a u/\A u/\i u<i a then h.choose else Q a
 have y:∀a,D a->l a=P a:=λa j=>if_pos j
 have x:∀a,A a->¬D a->G.own a=p->G.E a (l a)/\A (l a)/\i (l a)<i a:=λa j e b=>by
  rcases C a j with h|⟨_,h⟩|⟨h,_⟩
  .exact absurd h e
  .have s:l a=h.choose:=by show(if D a then _ else _)=_;rw[if_neg e,dif_pos h]
   rw[s];exact h.choose_spec
  .exact absurd b h
 have H:∀a,D' a->G.own a=p->l a=Q a:=λa j b=>by
  obtain⟨q,ha⟩:=w a j
  have:¬∃u,G.E a u/\A u/\i u<i a:=λ⟨u,Y,N,_⟩=>m.mine a u q ha b Y (m.sub u N) N
  show(if D a then _ else _)=_
  rw[if_neg (λh=>ha (z a h)),dif_neg this]
 refine⟨l,?_,?_,?_,?_⟩
 .rintro a (h|h)
  .exact m.sub a h
  .exact(w a h).1
 .rintro a (h|h) b
  .by_cases e:D a
   .rw[y a e];exact⟨(v a e b).1,.inl (z _ (v a e b).2)⟩
   .exact⟨(x a h e b).1,.inl (x a h e b).2.1⟩
  .rw[H a h b];exact⟨(F a h b).1,.inr (F a h b).2⟩
 .rintro a u (h|h) b B q
  .by_cases e:D a
   .exact .inl (z u (E a u e b B q))
   .rcases C a h with d|⟨d,_⟩|⟨_,d⟩
    .exact absurd d e
    .exact absurd d b
    .exact .inl (d u B q).1
  .by_cases ha:A u
   .exact .inl ha
   .exact .inr (T a u h b B ⟨q,ha⟩)
 .intro c f
  have L:∀n,X (c n):=λn=>by
   rcases(f n).1 with h|h
   .exact m.sub _ h
   .exact(w _ h).1
  by_cases o:∃n,D (c n)
  .obtain⟨n,W⟩:=o
   have t:∀k,D (c (k+n)):=λk=>by
    induction k with
    |zero=>rwa [Fj]
    |succ k r=>
     have s:k+1+n=k+n+1:=by omega
     by_cases b:G.own (c (k+n))=p
     .have:=(f (k+n)).2.2 b
      rw[y _ r]at this
      rw[s,this]
      exact(v _ r b).2
     .rw[s];exact E _ _ r b (f (k+n)).2.1 (L _)
   refine Wins.tail n (S _ λk=>⟨t k,?_,λb=>?_⟩)
   .have:=(f (k+n)).2.1
    rwa [show k+n+1=k+1+n from by omega]at this
   .have:=(f (k+n)).2.2 b
    rw[y _ (t k),show k+n+1=k+1+n from by omega]at this
    exact this
  .have o:∀n,¬D (c n):=λn h=>o ⟨n,h⟩
   by_cases I:∃n,A (c n)
   .obtain⟨n,W⟩:=I
    have O:∀g,A (c g)->A (c (g+1))/\i (c (g+1))<i (c g):=λg M=>by
     by_cases b:G.own (c g)=p
     .rw[(f g).2.2 b];exact(x _ M (o g) b).2
     .rcases C _ M with d|⟨d,_⟩|⟨_,d⟩
      .exact absurd d (o g)
      .exact absurd d b
      .exact d _ (f g).2.1 (L _)
    have t:∀k,A (c (k+n)):=λk=>by
     induction k with
     |zero=>rwa [Fj]
     |succ k r=>rw[show k+1+n=k+n+1 from by omega];exact(O _ r).1
    exact(descent (r:=λk=>i (c (k+n))) λk=>by
     have:=(O _ (t k)).2
     rwa [show k+n+1=k+1+n from by omega]at this).elim
   .have K:∀n,D' (c n):=λn=>(f n).1.resolve_left λh=>I ⟨n,h⟩
    refine U c λn=>⟨K n,(f n).2.1,λb=>?_⟩
    rw[(f n).2.2 b,H _ (K n) b]
theorem Dom.lift (k:IsAttr G X p S A) (h:Dom G (Mn X A) (!p) D):Dom G X (!p) D:=by
 obtain⟨m,c,g,i,j⟩:=h
 refine⟨m,λa b=>(c a b).1,g,λa u b e d f=>i a u b e d ⟨f,?_⟩,j⟩
 have l:G.own a=p:=by revert e;cases G.own a <;> cases p <;> simp
 exact k.mine a u (c a b).1 (c a b).2 l d f
theorem Dom.top {d:Int}(M:NoDead G X) (t:∀a,X a->G.pri a<=d) (P:oddP d=p) (o:IsAttr G X p (λa=>G.pri a=d) A) (h:Dom G (Mn X A) p (Mn X A)):Dom G X p X:=by
 obtain⟨H,U,I,V,K⟩:=h
 obtain⟨c,D⟩:=o.rank
 let i:Int->Int:=λa=>if h:∃u,G.E a u/\A u/\c u<c a then h.choose else if A a then(if h:∃u,G.E a u/\X u then h.choose else a) else H a
 have v:∀a,Mn X A a->G.own a=p->i a=H a:=λa g b=>by
  have:¬∃u,G.E a u/\A u/\c u<c a:=λ⟨u,S,E,_⟩=>o.mine a u g.1 g.2 b S (o.sub u E) E
  show(if h:_ then _ else _)=_
  rw[dif_neg this,if_neg g.2]
 have L:∀a,A a->¬G.pri a=d->G.own a=p->A (i a)/\c (i a)<c a:=λa g t b=>by
  rcases D a g with h|⟨_,h⟩|⟨h,_⟩
  .exact absurd h t
  .have j:i a=h.choose:=dif_pos h
   rw[j];exact h.choose_spec.2
  .exact absurd b h
 refine⟨i,λ_ h=>h,λa g b=>?_,λa u _ _ _ Q=>Q,λe m=>?_⟩
 .by_cases ha:A a
  .by_cases h:∃u,G.E a u/\A u/\c u<c a
   .have j:i a=h.choose:=dif_pos h
    rw[j];exact⟨h.choose_spec.1,o.sub _ h.choose_spec.2.1⟩
   .have r:=M a g
    have j:i a=r.choose:=by
     show(if h:_ then _ else _)=_
     rw[dif_neg h,if_pos ha,dif_pos r]
    rw[j];exact r.choose_spec
  .rw[v a ⟨g,ha⟩ b]
   have:=I a ⟨g,ha⟩ b
   exact⟨this.1,this.2.1⟩
 .have s:∀n,X (e n):=λn=>(m n).1
  by_cases y:∀N,∃n,N<=n/\G.pri (e n)=d
  .exact⟨d,P,y,0,λn _=>t _ (s n)⟩
  .obtain⟨N,O⟩:=Classical.not_forall.1 y
   have C:∀n,N<=n->¬G.pri (e n)=d:=λn q h=>O ⟨n,q,h⟩
   by_cases w:∃n,N<=n/\A (e n)
   .obtain⟨n,W,q⟩:=w
    have F:∀f,N<=f->A (e f)->A (e (f+1))/\c (e (f+1))<c (e f):=λf B z=>by
     by_cases b:G.own (e f)=p
     .rw[(m f).2.2 b];exact L _ z (C f B) b
     .rcases D _ z with l|⟨l,_⟩|⟨_,l⟩
      .exact absurd l (C f B)
      .exact absurd l b
      .exact l _ (m f).2.1 (s _)
    have T:∀k,A (e (k+n)):=λk=>by
     induction k with
     |zero=>rwa [Fj]
     |succ k R=>rw[show k+1+n=k+n+1 from by omega];exact(F _ (by omega) R).1
    exact(descent (r:=λk=>c (e (k+n))) λk=>by
     have:=(F _ (by omega) (T k)).2
     rwa [show k+n+1=k+1+n from by omega]at this).elim
   .have x:∀n,N<=n->Mn X A (e n):=λn q=>⟨s n,λh=>w ⟨n,q,h⟩⟩
    refine Wins.tail N (K _ λk=>⟨x _ (by omega),?_,λb=>?_⟩)
    .have:=(m (k+N)).2.1
     rwa [show k+N+1=k+1+N from by omega]at this
    .have:=(m (k+N)).2.2 b
     rw[v _ (x _ (by omega)) b,show k+N+1=k+1+N from by omega]at this
     exact this
theorem NoDead.less (h:NoDead G X) (e:IsAttr G X p S A):NoDead G (Mn X A):=λc ⟨d,ha⟩=>by
 by_cases f:G.own c=p
 .obtain⟨u,a,b⟩:=h c d
  exact⟨u,a,b,e.mine c u d ha f a b⟩
 .obtain⟨u,a,b,g⟩:=e.yours c d ha f
  exact⟨u,a,b,g⟩
structure Sol (G:Gm) (X:Int->Prop) (p:Bool) (W:Int->Prop):Prop where
 sub:∀v,W v->X v
 mine:Dom G X p W
 yours:Dom G X (!p) (Mn X W)
theorem Sol.uniq {W W':Int->Prop}(h:Sol G X p W) (c:Sol G X p W') (v:Int):W v↔W' v:=by
 constructor
 .intro a
  by_cases b:W' v
  .exact b
  .exact(Dom.disj h.mine c.yours a ⟨h.sub v a,b⟩).elim
 .intro a
  by_cases b:W v
  .exact b
  .exact(Dom.disj c.mine h.yours a ⟨c.sub v a,b⟩).elim
theorem Sol.flip {W:Int->Prop}(h:Sol G X p W):Sol G X (!p) (Mn X W):=by
 refine⟨λb a=>a.1,h.yours,?_⟩
 rw[Bool.not_not]
 refine h.mine.congr λb=>⟨λa=>⟨h.sub b a,λd=>d.2 a⟩,λa=>?_⟩
 by_cases c:W b
 .exact c
 .exact absurd ⟨a.1,c⟩ a.2
theorem Sol.congr {W W':Int->Prop}(h:Sol G X p W) (b:∀a,W a↔W' a):Sol G X p W':=by
 have:W=W':=funext λa=>propext (b a)
 exact this ▸ h
end
end Go.Proofs.YtldlmopdhmaceaaGreatDoor.Par
namespace Go.Proofs.YtldlmopdhmaceaaGreatDoor
open Go Go.Wk Go.Proofs
theorem de {α:Type}{xs ys:List α}{i v:Int}{x:α}(h:setI xs i x=some ys):idx ys v=if v=i then some x else idx xs v:=by
 obtain⟨h0,h1,rfl,_⟩:=rb h
 unfold idx
 by_cases a:0<=v
 .rw[if_pos a,if_pos a]
  by_cases b:v=i
  .subst b
   rw[if_pos rfl,List.getElem?_set_self (by omega)]
  .rw[if_neg b,List.getElem?_set_ne (by omega)]
 .rw[if_neg a,if_neg a,if_neg (by omega)]
theorem cY {α:Type}{xs:List α}{i:Int}(x:α) (h0:0<=i) (h1:i<xs.length):∃a,setI xs i x=some a/\a.length=xs.length:=by
 have:setI xs i x=some (xs.set i.toNat x):=by unfold setI;rw[if_pos ⟨h0,h1⟩]
 exact⟨_,this,(rb this).2.2.2⟩
theorem cI {α:Type}{xs:List α}{i:Int}(h0:0<=i) (h1:i<xs.length):∃x,idx xs i=some x:=by
 obtain⟨x,h,_⟩:=g8 h0 h1
 exact⟨x,h⟩
theorem cO {α:Type}{xs:List α}{i:Int}{x:α}(h:idx xs i=some x):0<=i/\i<xs.length:=⟨(eh h).1,(eh h).2.1⟩
def posL (v:Int):VI->Nat
 | []=>0
 |x::xs=>if x=v then 0 else posL v xs+1
theorem yf {v:Int}:∀{Q:VI},v∈Q->Q[posL v Q]? =some v
 |x::xs,h=>by
  unfold posL
  by_cases a:x=v
  .rw[if_pos a,a];rfl
  .rw[if_neg a]
   rcases E5.1 h with h|h
   .exact absurd h.symm a
   .simpa using yf h
theorem Ai {v:Int}:∀{Q:VI}{m:Nat},Q[m]? =some v->posL v Q<=m
 |x::xs,0,h=>by
  unfold posL
  simp at h
  rw[if_pos h];omega
 |x::xs,m+1,h=>by
  unfold posL
  split
  .omega
  .have:=Ai (Q:=xs) (m:=m) (by simpa using h)
   omega
theorem AV {u:Int}{Q:VI}{k:Nat}(h:u∈Q.take k):posL u Q<k:=by
 obtain⟨b,a⟩:=Gk.1 h
 rw[List.getElem?_take]at a
 split at a
 .have:=Ai a;omega
 .cases a
def In (B:VB) (v:Int):Prop:=idx B v=some true
section
variable (row:Int->VI) (own:Int->Bool) (pri:Int->Int) (inn:Int->Prop) (p:Bool) (goal:Int->Prop)
def mkG:Par.Gm:=⟨own,pri,λa u=>u∈row a⟩
structure Cert (Q:VI):Prop where
 nd:Q.Nodup
 mem:∀v∈Q,inn v
 why:∀(k:Nat) v,Q[k]? =some v->goal v\/(own v=p/\∃u∈Q.take k,u∈row v)\/(¬own v=p/\∀u∈row v,inn u->u∈Q.take k)
variable {row own pri inn p goal}
theorem Cert.snoc {Q:VI}(h:Cert row own inn p goal Q){v:Int}(f:v∉Q) (hi:inn v) (g:goal v\/(own v=p/\∃u∈Q,u∈row v)\/(¬own v=p/\∀u∈row v,inn u->u∈Q)):Cert row own inn p goal (Q++[v]):=by
 refine⟨?_,?_,?_⟩
 .rw[Gq]
  exact⟨h.nd,by simp,λa ha b hb=>by simp at hb;subst hb;exact λd=>f (d ▸ ha)⟩
 .intro x c
  rcases E4.1 c with c|c
  .exact h.mem x c
  .simp at c;subst c;exact hi
 .intro k x hk
  by_cases e:k<Q.length
  .rw[Fw e]at hk
   rw[Gw (by omega)]
   exact h.why k x hk
  .have:k=Q.length:=by
    have:=(C7.1 hk).1
    simp at this;omega
   subst this
   rw[List.getElem?_append_right (Fg _),Nat.sub_self]at hk
   simp at hk
   subst hk
   rw[Gw (Fg _),Gx]
   exact g
def Trap (row:Int->VI) (own:Int->Bool) (inn:Int->Prop) (p:Bool) (Q:VI) (d:Int->Int->Prop):Prop:=∀a,inn a->a∉Q->(own a=p->∀b∈row a,inn b->¬d a b)/\(¬own a=p->∃b∈row a,inn b/\¬d a b)
theorem Cert.attr {Q:VI}(h:Cert row own inn p goal Q) (o:∀a,inn a->goal a->a∈Q) (k:Trap row own inn p Q (λ_ i=>i∈Q)):Par.IsAttr (mkG row own pri) inn p goal (λa=>a∈Q):=by
 refine⟨h.mem,o,⟨λa=>posL a Q,λa q=>?_⟩,?_,?_⟩
 .have j:∀u,u∈Q.take (posL a Q)->u∈Q/\posL u Q<posL a Q:=λu d=>⟨List.mem_of_mem_take d,AV d⟩
  rcases h.why _ a (yf q) with g|⟨b,u,d,f⟩|⟨b,g⟩
  .exact .inl g
  .exact .inr (.inl ⟨b,u,f,j u d⟩)
  .exact .inr (.inr ⟨b,λu f c=>j u (g u f c)⟩)
 .intro a u c e b n r
  exact(k a c e).1 b u n r
 .intro a c e b
  obtain⟨i,h1,l,m⟩:=(k a c e).2 b
  exact⟨i,h1,l,m⟩
end
open Classical in
noncomputable def lf (row:VI) (inn d:Int->Prop):Nat:=(row.filter (λa=>decide (inn a/\¬d a))).length
theorem ww {row:VI}{inn d:Int->Prop}:lf row inn d=0↔∀a∈row,inn a->d a:=by
 classical
 unfold lf
 rw[List.length_eq_zero_iff,List.filter_eq_nil_iff]
 constructor
 .intro h a b e
  by_cases c:d a
  .exact c
  .exact absurd (by simp;exact⟨e,c⟩) (h a b)
 .intro h a b hc
  simp at hc
  exact hc.2 (h a b hc.1)
theorem fu {row:VI}{inn d c:Int->Prop}(h:∀a∈row,inn a->(d a↔c a)):lf row inn d=lf row inn c:=by
 classical
 unfold lf
 congr 1
 apply List.filter_congr
 intro a e
 by_cases b:inn a
 .simp[b,h a e b]
 .simp[b]
theorem BC {row:VI}{inn d:Int->Prop}:lf row inn d<=row.length:=by
 unfold lf;exact List.length_filter_le _ _
theorem wv {inn d:Int->Prop}{u:Int}:∀{row:VI},row.Nodup->u∈row->inn u->¬d u->lf row inn (λb=>d b\/b=u)+1=lf row inn d
 |x::xs,hn,hu,hi,hd=>by
  classical
  have f:=List.nodup_cons.1 hn
  by_cases a:x=u
  .subst a
   have:lf xs inn (λb=>d b\/b=x)=lf xs inn d:=fu λb i _=>⟨λh=>h.resolve_right λa=>f.1 (a ▸ i),.inl⟩
   unfold lf at this ⊢
   rw[Ge,if_neg (by simp),Ge,if_pos (by simp[hi,hd]),E1,this]
  .have g:u∈xs:=(E5.1 hu).resolve_left λh=>a h.symm
   have e:=wv f.2 g hi hd
   unfold lf at e ⊢
   rw[Ge,Ge]
   by_cases hc:inn x/\¬d x
   .rw[if_pos (by simp[hc,a]),if_pos (by simp[hc]),E1,E1,← e]
   .rw[if_neg (by simp[a];exact λh=>F9 λc=>hc ⟨h,c⟩),if_neg (by simp;exact λh=>F9 λc=>hc ⟨h,c⟩),e]
def dn (T:VI) (u:Int) (L:VI) (v y:Int):Prop:=y∈T\/(y=u/\v∈L)
structure Mid (row:Int->VI) (own:Int->Bool) (inn:Int->Prop) (p:Bool) (goal:Int->Prop) (T:VI) (u:Int) (L Q:VI):Prop where
 cert:Cert row own inn p goal Q
 hu:∃R,Q=T++u::R
 trap:Trap row own inn p Q (dn T u L)
section
variable {row:Int->VI}{own:Int->Bool}{inn:Int->Prop}{p:Bool}{goal:Int->Prop}{T:VI}{u:Int}{L Q:VI}
theorem Mid.u_in (h:Mid row own inn p goal T u L Q):u∈Q/\u∉T/\inn u:=by
 obtain⟨R,a⟩:=h.hu
 have b:u∈Q:=by rw[a];simp
 refine⟨b,?_,h.cert.mem u b⟩
 have:=h.cert.nd
 rw[a,Gq]at this
 exact λc=>this.2.2 u c u (by simp) rfl
theorem g9 {v w y:Int}(h:w≠v):dn T u (L++[v]) w y↔dn T u L w y:=by
 unfold dn
 rw[E4,E7]
 constructor
 .rintro(h1|⟨h1,a|a⟩)
  .exact .inl h1
  .exact .inr ⟨h1,a⟩
  .exact absurd a h
 .rintro(h1|⟨h1,a⟩)
  .exact .inl h1
  .exact .inr ⟨h1,.inl a⟩
theorem vW {v y:Int}:dn T u (L++[v]) v y↔y∈T\/y=u:=by
 unfold dn;simp
theorem mE {v y:Int}(h:v∉L):dn T u L v y↔y∈T:=by
 unfold dn;simp[h]
theorem Mid.skip (h:Mid row own inn p goal T u L Q){v:Int}(d:¬inn v\/v∈Q\/u∉row v):Mid row own inn p goal T u (L++[v]) Q:=by
 refine⟨h.cert,h.hu,λe m l=>?_⟩
 obtain⟨o,q⟩:=h.trap e m l
 by_cases g:e=v
 .subst g
  have r:u∉row e:=by
   rcases d with d|d|d
   .exact absurd m d
   .exact absurd d l
   .exact d
  have n:∀a∈row e,(dn T u (L++[e]) e a↔dn T u L e a):=λa f=>by
   have s:a≠u:=λg=>r (g ▸ f)
   unfold dn;simp[s]
  refine⟨λc a f k=>λb=>o c a f k ((n a f).1 b),λc=>?_⟩
  obtain⟨a,h1,i,j⟩:=q c
  exact⟨a,h1,i,λb=>j ((n a h1).1 b)⟩
 .refine⟨λc a f k=>λb=>o c a f k ((g9 g).1 b),λc=>?_⟩
  obtain⟨a,h1,i,j⟩:=q c
  exact⟨a,h1,i,λb=>j ((g9 g).1 b)⟩
theorem Mid.stay (h:Mid row own inn p goal T u L Q){v:Int}(c:¬own v=p) (k:lf (row v) inn (λa=>a∈T\/a=u)≠0):Mid row own inn p goal T u (L++[v]) Q:=by
 refine⟨h.cert,h.hu,λg n m=>?_⟩
 obtain⟨o,q⟩:=h.trap g n m
 by_cases d:g=v
 .subst d
  refine⟨λl=>absurd l c,λ_=>?_⟩
  apply F9
  intro hc
  apply k
  rw[ww]
  intro a f e
  apply F9
  intro b
  exact hc ⟨a,f,e,λh=>b (vW.1 h)⟩
 .refine⟨λc a f e=>λb=>o c a f e ((g9 d).1 b),λc=>?_⟩
  obtain⟨a,h1,i,j⟩:=q c
  exact⟨a,h1,i,λb=>j ((g9 d).1 b)⟩
theorem Mid.add (h:Mid row own inn p goal T u L Q){v:Int}(hi:inn v) (k:v∉Q) (l:u∈row v) (m:own v=p\/lf (row v) inn (λa=>a∈T\/a=u)=0):Mid row own inn p goal T u (L++[v]) (Q++[v]):=by
 obtain⟨R,f⟩:=h.hu
 have j:∀a,a∈T\/a=u->a∈Q:=λa b=>by
  rw[f]
  rcases b with b|b
  .simp[b]
  .simp[b]
 refine⟨h.cert.snoc k hi ?_,⟨R++[v],by rw[f];simp⟩,λs n d=>?_⟩
 .by_cases c:own v=p
  .exact .inr (.inl ⟨c,u,h.u_in.1,l⟩)
  .exact .inr (.inr ⟨c,λa b o=>j a ((ww.1 (m.resolve_left c)) a b o)⟩)
 .rw[E4,E7,not_or]at d
  obtain⟨q,r⟩:=h.trap s n d.1
  refine⟨λc a b hi=>λe=>q c a b hi ((g9 d.2).1 e),λc=>?_⟩
  obtain⟨a,h1,g,i⟩:=r c
  exact⟨a,h1,g,λe=>i ((g9 d.2).1 e)⟩
theorem Mid.first {R:VI}(hc:Cert row own inn p goal (T++u::R)) (i:Trap row own inn p (T++u::R) (λ_ a=>a∈T)):Mid row own inn p goal T u [] (T++u::R):=by
 refine⟨hc,⟨R,rfl⟩,λn j g=>?_⟩
 obtain⟨l,m⟩:=i n j g
 refine⟨λc a k f b=>l c a k f ((mE (by simp)).1 b),λc=>?_⟩
 obtain⟨a,h1,d,e⟩:=m c
 exact⟨a,h1,d,λb=>e ((mE (by simp)).1 b)⟩
theorem Mid.last (h:Mid row own inn p goal T u L Q) (i:∀c,inn c->u∈row c->c∈L):Trap row own inn p Q (λ_ b=>b∈T++[u]):=λc g m=>by
 obtain⟨o,q⟩:=h.trap c g m
 have n:∀b∈row c,(b∈T++[u]->dn T u L c b):=λb d a=>by
  rw[E4,E7]at a
  rcases a with a|a
  .exact .inl a
  .exact .inr ⟨a,i c g (a ▸ d)⟩
 refine⟨λf b d l e=>o f b d l (n b d e),λf=>?_⟩
 obtain⟨b,h1,j,k⟩:=q f
 exact⟨b,h1,j,λe=>k (by
  rcases E4.1 e with a|a
  .exact .inl a
  .rw[E7]at a
   exact .inr ⟨a,i c g (a ▸ h1)⟩)⟩
end
end Go.Proofs.YtldlmopdhmaceaaGreatDoor
