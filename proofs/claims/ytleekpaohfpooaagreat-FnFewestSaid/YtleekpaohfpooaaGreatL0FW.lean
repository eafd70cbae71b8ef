/- Plain laws: two loops side by side, bits, Boolean chains. -/
import Derived.Test.YtleekpaohfpooaaGreatLwFW
import Derived.Test.YtleekpaohfpooaaGreatLawFW
set_option linter.unusedVariables false
set_option linter.unusedSimpArgs false
open Option renaming bind → bH, bind_some → bI
open List renaming getElem?_eq_getElem → bJ, getElem?_eq_some_iff → bK, replicate → bO, mem_of_getElem? → bQ, length_append → z5, mem_singleton → z6, length_cons → z8, length_take → z9, length_nil → Aa, mem_append → Ad, take_add_one → Ae, length_map → Ah
open Bool renaming and_eq_true → sh, not_true → zZ, eq_iff_iff → Ab
open Int renaming toNat_natCast → z7
namespace Go.Proofs.YtleekpaohfpooaaGreat
open Go Go.Wk Go.Proofs
theorem orE (b c:Bool):(bif b then some true else some c)=some (b||c):=by cases b <;> rfl
theorem andE (b c:Bool):(bif b then some c else some false)=some (b&&c):=by cases b <;> rfl
theorem sH {e i b c:Type}{f:Int->b->Option (e⊕(b⊕b))}{g:Int->c->Option (i⊕(c⊕c))}(R:Nat->b->c->Prop) (O:e->i->Prop) (B:b->c->Prop) (N:Nat)
 (d:∀(j:Nat) s t,j<N->R j s t->∃o p,f j s=some o/\g j t=some p/\(match o,p with
  | .inl r,.inl r'=>O r r'
  | .inr (.inl a),.inr (.inl t')=>B a t'
  | .inr (.inr a),.inr (.inr t')=>R (j+1) a t'
  | _,_=>False)):
 ∀(k j:Nat) (s:b) (t:c),j+k=N->R j s t->∃o p,cntM f k j s=some o/\cntM g k j t=some p/\(match o,p with
  | .inl r,.inl r'=>O r r'
  | .inr a,.inr t'=>R N a t'\/B a t'
  | _,_=>False)
 | 0,j,s,t,hj,h=>⟨.inr s,.inr t,rfl,rfl,.inl (by rw[← hj];exact h)⟩
 | k+1,j,s,t,hj,h=>by
  obtain⟨o,p,m,hp,hm⟩:=d j s t (by omega) h
  show ∃o p,bH (f j s) _=some o/\bH (g j t) _=some p/\_
  rw[m,hp]
  match o,p,hm with
  | .inl r,.inl r',hm=>exact⟨.inl r,.inl r',rfl,rfl,hm⟩
  | .inr (.inl a),.inr (.inl t'),hm=>exact⟨.inr a,.inr t',rfl,rfl,.inr hm⟩
  | .inr (.inr a),.inr (.inr t'),hm=>
   obtain⟨n,q,h1,h2,l⟩:=sH R O B N d k (j+1) a t' (by omega) hm
   exact⟨n,q,h1,h2,l⟩
theorem kT {a α:Type}{f:Int->Unit->Option (a⊕(Unit⊕Unit))}{r:a}(g:Nat->α->Bool){xs:List α}{n:Nat}(hn:n=xs.length) (h:∀(i:Nat) x,xs[i]? =some x->f (i:Int) ()=some (if g i x then .inr (.inr ()) else .inl r)):
 cntM f n 0 ()=some (if xs.zipIdx.all (λp=>g p.2 p.1) then .inr () else .inl r):=by
 subst hn
 have:=eN (f:=f) (r:=r) (λp:α×Nat=>g p.2 p.1) (xs:=xs.zipIdx) (n:=xs.length) (by simp) (λi x hx=>by
  rw[List.getElem?_zipIdx]at hx
  cases hy:xs[i]? with
  | none=>rw[hy]at hx;cases hx
  | some y=>
   rw[hy]at hx
   simp at hx
   subst hx
   exact h i y hy)
 exact this
theorem cC {d b:Type}{f:b->Option (d⊕(b⊕b))}(I:Nat->b->Prop) (R:d->Prop) (B:b->Prop) (N:Nat)
 (c:∀(j:Nat) s,I j s->∃o,f s=some o/\(match o with
  | .inl r=>R r
  | .inr (.inl a)=>B a
  | .inr (.inr a)=>j<N/\I (j+1) a)):
 ∀(k j:Nat) (s:b),N<k+j->I j s->(0<k)->∃o,bU f k s=some o/\(match o with
  | .inl r=>R r
  | .inr a=>B a)
 | 0,_,_,_,_,h=>absurd h (Nat.lt_irrefl 0)
 | k+1,j,s,hk,h,_=>by
  obtain⟨o,e,hm⟩:=c j s h
  show ∃o,bH (f s) _=some o/\_
  rw[e]
  match o,hm with
  | .inl r,hm=>exact⟨.inl r,rfl,hm⟩
  | .inr (.inl a),hm=>exact⟨.inr a,rfl,hm⟩
  | .inr (.inr a),hm=>
   obtain⟨g,h1,h2⟩:=cC I R B N c k (j+1) a (by omega) hm.2 (by omega)
   exact⟨g,h1,h2⟩
theorem mX {i j b c:Type}{f:b->Option (i⊕(b⊕b))}{g:c->Option (j⊕(c⊕c))}(R:b->c->Prop) (d:b->Nat) (O:i->j->Prop) (B:b->c->Prop)
 (e:∀s t,R s t->∃o p,f s=some o/\g t=some p/\(match o,p with
  | .inl r,.inl r'=>O r r'
  | .inr (.inl a),.inr (.inl t')=>B a t'
  | .inr (.inr a),.inr (.inr t')=>R a t'/\d a<d s
  | _,_=>False)):
 ∀(k k':Nat) (s:b) (t:c),d s<k->d s<k'->R s t->∃o p,bU f k s=some o/\bU g k' t=some p/\(match o,p with
  | .inl r,.inl r'=>O r r'
  | .inr a,.inr t'=>B a t'
  | _,_=>False)
 | 0,_,_,_,h,_,_=>absurd h (Nat.not_lt_zero _)
 | _,0,_,_,_,h,_=>absurd h (Nat.not_lt_zero _)
 | k+1,k'+1,s,t,hk,hk',h=>by
  obtain⟨o,p,m,hp,hm⟩:=e s t h
  show ∃o p,bH (f s) _=some o/\bH (g t) _=some p/\_
  rw[m,hp]
  match o,p,hm with
  | .inl r,.inl r',hm=>exact⟨.inl r,.inl r',rfl,rfl,hm⟩
  | .inr (.inl a),.inr (.inl t'),hm=>exact⟨.inr a,.inr t',rfl,rfl,hm⟩
  | .inr (.inr a),.inr (.inr t'),hm=>
   obtain⟨n,q,h1,h2,l⟩:=mX R d O B e k k' a t' (by omega) (by omega) hm.1
   exact⟨n,q,h1,h2,l⟩
theorem uJ {c a:Type}{f:a->Option (c⊕(a⊕a))}(st:Nat->a):∀(n k:Nat) (_:∀i,i<n->f (st i)=some (.inr (.inr (st (i+1))))),bU f (n+k) (st 0)=bU f k (st n):=by
 intro n k
 induction n generalizing st with
 | zero=>intro _;rw[Nat.zero_add]
 | succ n b=>
  intro h
  rw[show n+1+k=(n+k)+1 from by omega]
  show bH (f (st 0)) _=_
  rw[h 0 (by omega),bI]
  show bU f (n+k) (st 1)=_
  exact b (λi=>st (i+1)) (λi d=>h (i+1) (by omega))
def b2i (b:Bool):Int:=if b then 1 else 0
theorem cY {z:Int}(h:0<=z):∃n:Nat,z=n:=⟨z.toNat,by omega⟩
theorem appL {α:Type}{b:Nat}{xs ys:List α}(h:xs.length+ys.length<=100000000000) (hb:Nat.ble b 1024=true):appS b xs ys=some (xs++ys):=by
 have hb:=Nat.ble_eq.mp hb
 have:(xs.length+ys.length) * b<=100000000000 * 1024:=Nat.mul_le_mul h hb
 unfold appS
 rw[if_pos (by omega)]
theorem app1 {α:Type}{b:Nat}{xs:List α}{x:α}(h:xs.length<=10000000000) (hb:Nat.ble b 1024=true):appS b xs [x]=some (xs++[x]):=appL (by simp only[z8,Aa];omega) hb
theorem gK {α:Type}{xs:List α}{z:Int}(h0:0<=z) (h1:z<xs.length):∃x,idx xs z=some x/\x∈xs:=by
 have a:z.toNat<xs.length:=by omega
 exact⟨xs[z.toNat],by rw[cz h0];simp[a],by simp⟩
def RowIn (n:Int) (l:Int) (row:List Int):Prop:=(row.length:Int)=l/\∀x∈row,0<=x/\x<n
def tab (t:List (List Int)) (q i:Int):Int:=(t.getD q.toNat []).getD i.toNat 0
theorem jK {t:List (List Int)}{n l:Int}(h:∀row∈t,RowIn n l row){q i:Int}(c:0<=q) (g:q<t.length) (b:0<=i) (k:i<l):
 ∃row,idx t q=some row/\idx row i=some (tab t q i)/\0<=tab t q i/\tab t q i<n:=by
 obtain⟨row,h1,h2⟩:=gK (xs:=t) c g
 obtain⟨j,d⟩:=h row h2
 obtain⟨x,a,f⟩:=gK (xs:=row) b (by omega)
 have e:tab t q i=x:=by
  unfold tab
  rw[cz c]at h1
  rw[cz b]at a
  rw[List.getD_eq_getElem?_getD,List.getD_eq_getElem?_getD,h1,Option.getD_some,a,Option.getD_some]
 rw[e]
 exact⟨row,h1,a,d x f⟩
theorem og {c a α:Type}{f:Int->a->Option (c⊕(a⊕a))}(g:a->α->a) (I:Nat->a->Prop){xs:List α}
 (h:∀(i:Nat) x s,xs[i]? =some x->I i s->f (i:Int) s=some (.inr (.inr (g s x)))/\I (i+1) (g s x)) {s:a} (h0:I 0 s):
 cntM f xs.length 0 s=some (.inr (xs.foldl g s))/\I xs.length (xs.foldl g s):=by
 obtain⟨d,h1,h2,b⟩:=cv (f:=f) (λj t=>t=(xs.take j).foldl g s/\I j t) xs.length (s:=s) ⟨by simp,h0⟩ λj t hj ⟨ht,hI⟩=>by
  have hx:xs[j]? =some xs[j]:=by simp[hj]
  obtain⟨h1,h2⟩:=h j _ t hx hI
  refine⟨_,h1,?_,h2⟩
  rw[Ae,hx,List.foldl_append,← ht]
  rfl
 rw[h1,h2,List.take_length]
 rw[h2,List.take_length]at b
 exact⟨rfl,b⟩
end Go.Proofs.YtleekpaohfpooaaGreat
set_option linter.unusedVariables false
set_option linter.unusedSimpArgs false
namespace Go.Proofs.YtleekpaohfpooaaGreat
open Go Go.Wk Go.Proofs
def inR (n x:Int):Bool:=decide (0<=x)&&decide (x<n)
theorem fg {n x:Int}:inR n x=true↔0<=x/\x<n:=by unfold inR;simp
theorem uT (n x:Int):(decide (0<=x)&&decide (x<=n-1))=inR n x:=by
 unfold inR
 congr 1
 exact decide_eq_decide.2 (by omega)
theorem xZ (n x:Int):(decide (x<0)||decide (n<=x))= !(inR n x):=by
 unfold inR
 by_cases h1:x<0 <;> by_cases h2:n<=x <;> simp[h1,h2] <;> omega
theorem in2 (o:Int):(decide (0<=o)&&decide (o<=1))=inR 2 o:=by
 unfold inR;congr 1;exact decide_eq_decide.2 (by omega)
theorem in41 (o:Int):(decide (0<=o)&&decide (o<=40))=inR 41 o:=by
 unfold inR;congr 1;exact decide_eq_decide.2 (by omega)
theorem tX (a b:Int):decide (a<b)= !decide (b<=a):=by rw[← decide_not];exact decide_eq_decide.2 (by omega)
theorem cV (a b c:Int):dQ a b c=some (decide (b<=a)&&decide (a<=c)):=by
 unfold dQ
 by_cases h:b<=a <;> simp[h]
theorem dP:∀(n:Nat) (xs:List Int),xs.Nodup->(∀x∈xs,0<=x/\x<n)->xs.length<=n
 | 0,[],_,_=>by simp
 | 0,x::xs,_,h=>by have:=h x (List.mem_cons_self ..);omega
 | n+1,xs,hn,h=>by
  by_cases hm:(n:Int)∈xs
  · have h1:=List.length_erase_of_mem hm
    have h2:=dP n (xs.erase (n:Int)) (hn.erase _) (λx hx=>by
     rw[hn.mem_erase_iff]at hx
     have:=h x hx.2
     have:=hx.1
     omega)
    omega
  · have:=dP n xs hn (λx hx=>by
     have a:=h x hx
     have:x≠n:=λe=>hm (e ▸ hx)
     omega)
    omega
end Go.Proofs.YtleekpaohfpooaaGreat
set_option linter.unusedVariables false
set_option linter.unusedSimpArgs false
namespace Go.Proofs.YtleekpaohfpooaaGreat
open Go Go.Wk Go.Proofs
def stepUp (n:Int) (xs:List Int) (i:Nat) (x:Int):Bool:=inR n x&&(!decide (0<i)||(match xs[i-1]? with | some y=>decide (y<x) | none=>false))
def da (n:Int) (xs:List Int):Bool:=xs.zipIdx.all (λp=>stepUp n xs p.2 p.1)
theorem lV {n:Int}{xs:List Int}(h:da n xs=true):(∀(i:Nat) x,xs[i]? =some x->0<=x/\x<n)/\∀(i:Nat) x y,xs[i]? =some x->xs[i+1]? =some y->x<y:=by
 unfold da at h
 rw[List.all_eq_true]at h
 refine⟨λi x hx=>?_,λi x y hx hy=>?_⟩
 · have:=h (x,i) (List.mem_zipIdx_iff_getElem?.2 hx)
   unfold stepUp at this
   rw[sh]at this
   exact fg.1 this.1
 · have:=h (y,i+1) (List.mem_zipIdx_iff_getElem?.2 hy)
   unfold stepUp at this
   simp only[Nat.add_sub_cancel,hx]at this
   have h2:=((sh _ _).mp this).2
   simp at h2
   exact h2
theorem tH {n:Int}{xs:List Int}(h:da n xs=true):∀(i:Nat) x,xs[i]? =some x->(i:Int)<=x
 | 0,x,hx=>by have:=((lV h).1 0 x hx).1;omega
 | i+1,x,hx=>by
  have a:i<xs.length:=by have:=(bK.1 hx).1;omega
  have hy:xs[i]? =some xs[i]:=by simp[a]
  have:=tH h i _ hy
  have:=(lV h).2 i _ _ hy hx
  omega
theorem vZ {n:Int}{xs:List Int}(h:da n xs=true) (h0:0<=n):(xs.length:Int)<=n:=by
 by_cases a:xs.length=0
 · omega
 · have hx:xs[xs.length-1]? =some (xs[xs.length-1]'(by omega)):=bJ (by omega)
   have:=tH h _ _ hx
   have:=((lV h).1 _ _ hx).2
   omega
theorem tg {xs:List Int}{i:Nat}(hi:i<xs.length) (h:0<i):∃y,idx xs (IntKind.i64.wrap ((i:Int)-1))=some y/\xs[i-1]? =some y\/1000000000<=i:=by
 by_cases hb:1000000000<=i
 · exact⟨0,.inr hb⟩
 · refine⟨xs[i-1]'(by omega),.inl ⟨?_,bJ (by omega)⟩⟩
   rw[wr' (by omega) (by omega),show((i:Int)-1)=((i-1:Nat):Int) from by omega,bS]
   exact bJ (by omega)
theorem r6 {xs:List Int}{n:Int}(h0:0<=n) (h1:n<=1000000000) (hl:xs.length<=1000000000):lg xs n=some (da n xs):=by
 unfold lg
 rw[kT (f:=iH xs n) (r:=false) (stepUp n xs) (xs:=xs) rfl (λi x hx=>by
  have g:=(bK.1 hx).1
  unfold iH stepUp
  rw[bS,hx]
  simp only[bI,wr' (z:=n-1) (by omega) (by omega),cV,uT]
  cases inR n x with
  | false=>rfl
  | true=>
   by_cases a:0<i
   · obtain⟨y,⟨b,c⟩ | e⟩:=tg g a
     · have d:decide (x<=y)= !decide (y<x):=by rw[← decide_not];exact decide_eq_decide.2 (by omega)
       simp only[b,c,show(0:Int)<(i:Int) from by omega,a,decide_true,zZ,cond_false,cond_true,bI,d,Bool.true_and,Bool.false_or]
       cases decide (y<x) <;> rfl
     · omega
   · have:¬(0:Int)<(i:Int):=by omega
     simp[a,this])]
 unfold da
 cases List.all xs.zipIdx (λp=>stepUp n xs p.2 p.1) <;> rfl
theorem lR {xs:List Int}{n:Int}(h0:0<=n) (h1:n<=1000000000) (hl:xs.length<=1000000000):kG xs n=some (da n xs):=by
 unfold kG
 rw[r6 h0 h1 hl]
 by_cases h:(xs.length:Int)<=n
 · simp[h]
 · have:da n xs=false:=by
    cases hs:da n xs with
    | false=>rfl
    | true=>exact absurd (vZ hs h0) h
   simp[h,this]
theorem pt {xs:List Int}{n:Int}(hl:xs.length<=1000000000):mH xs n=some (da n xs):=by
 unfold mH
 rw[kT (f:=j4 xs n) (r:=false) (stepUp n xs) (xs:=xs) rfl (λi x hx=>by
  have g:=(bK.1 hx).1
  unfold j4 stepUp
  rw[bS,hx]
  simp only[bI,orE,xZ]
  cases inR n x with
  | false=>rfl
  | true=>
   by_cases a:0<i
   · obtain⟨y,⟨b,c⟩ | e⟩:=tg g a
     · have d:decide (x<=y)= !decide (y<x):=by rw[← decide_not];exact decide_eq_decide.2 (by omega)
       simp only[b,c,show(0:Int)<(i:Int) from by omega,a,decide_true,zZ,cond_false,cond_true,bI,d,Bool.true_and,Bool.false_or]
       cases decide (y<x) <;> rfl
     · omega
   · have:¬(0:Int)<(i:Int):=by omega
     simp[a,this])]
 unfold da
 cases List.all xs.zipIdx (λp=>stepUp n xs p.2 p.1) <;> rfl
end Go.Proofs.YtleekpaohfpooaaGreat
set_option linter.unusedVariables false
set_option linter.unusedSimpArgs false
namespace Go.Proofs.YtleekpaohfpooaaGreat
open Go Go.Wk Go.Proofs
abbrev Asc (xs:List Int):Prop:=xs.Pairwise (· < ·)
theorem nj:∀{xs ys:List Int},Asc xs->Asc ys->(∀z,z∈xs↔z∈ys)->xs=ys
 | [],[],_,_,_=>rfl
 | [],y::ys,_,_,h=>by have:=(h y).2 (List.mem_cons_self ..);cases this
 | x::xs,[],_,_,h=>by have:=(h x).1 (List.mem_cons_self ..);cases this
 | x::xs,y::ys,hx,hy,h=>by
  have b:=List.pairwise_cons.1 hx
  have c:=List.pairwise_cons.1 hy
  have e:x=y:=by
   have h1:=(h x).1 (List.mem_cons_self ..)
   have h2:=(h y).2 (List.mem_cons_self ..)
   rcases List.mem_cons.1 h1 with h1 | h1
   · exact h1
   · rcases List.mem_cons.1 h2 with h2 | h2
     · exact h2.symm
     · have:=b.1 y h2
       have:=c.1 x h1
       omega
  subst e
  congr 1
  refine nj b.2 c.2 λz=>?_
  have d:=h z
  rw[List.mem_cons,List.mem_cons]at d
  constructor
  · intro hm
    have:=b.1 z hm
    rcases d.1 (.inr hm) with e | a
    · omega
    · exact a
  · intro hm
    have:=c.1 z hm
    rcases d.2 (.inr hm) with e | a
    · omega
    · exact a
theorem wj:∀{xs:List Int},(∀(i:Nat) x y,xs[i]? =some x->xs[i+1]? =some y->x<y)->Asc xs
 | [],_=>List.Pairwise.nil
 | [x],_=>by simp
 | x::y::r,h=>by
  have d:=wj (xs:=y::r) (λi a b ha hb=>h (i+1) a b ha hb)
  have e:=h 0 x y rfl rfl
  refine List.pairwise_cons.2 ⟨λz c=>?_,d⟩
  rcases List.mem_cons.1 c with rfl | c
  · exact e
  · have:=(List.pairwise_cons.1 d).1 z c
    omega
theorem ig {n:Int}{xs:List Int}:da n xs=true↔(∀x∈xs,0<=x/\x<n)/\Asc xs:=by
 constructor
 · intro h
   obtain⟨h1,h2⟩:=lV h
   refine⟨λx hx=>?_,wj h2⟩
   obtain⟨i,a⟩:=List.mem_iff_getElem?.1 hx
   exact h1 i x a
 · rintro⟨h1,h2⟩
   unfold da
   rw[List.all_eq_true]
   rintro⟨x,i⟩ hx
   have hx:=List.mem_zipIdx_iff_getElem?.1 hx
   dsimp only at hx ⊢
   unfold stepUp
   rw[sh]
   refine⟨fg.2 (h1 x (bQ hx)),?_⟩
   by_cases a:0<i
   · have b:=(bK.1 hx).1
     have hy:xs[i-1]? =some (xs[i-1]'(by omega)):=bJ (by omega)
     have:=List.pairwise_iff_getElem.1 h2 (i-1) i (by omega) b (by omega)
     rw[(bK.1 hx).2]at this
     rw[hy]
     simp[this]
   · simp[a]
theorem rt {xs:List Int}(h:Asc xs){i j:Nat}{x y:Int}(hi:xs[i]? =some x) (hj:xs[j]? =some y) (c:i<j):x<y:=by
 obtain⟨h1,a⟩:=bK.1 hi
 obtain⟨h2,b⟩:=bK.1 hj
 rw[← a,← b]
 exact List.pairwise_iff_getElem.1 h i j h1 h2 c
theorem gT {xs:List Int}(h:Asc xs):xs.Nodup:=List.Pairwise.imp (λh e=>by omega) h
theorem tI {xs:List Int}(h:xs.Nodup):Asc (xs.mergeSort λx y=>decide (x<=y)):=by
 have h1:(xs.mergeSort λx y=>decide (x<=y)).Pairwise (λa b=>decide (a<=b)=true):=List.pairwise_mergeSort (λa b c h1 h2=>by simp only[decide_eq_true_eq]at *;omega) (λa b=>by simp only[Bool.or_eq_true,decide_eq_true_eq];omega) xs
 have h2:(xs.mergeSort λx y=>decide (x<=y)).Nodup:=(List.mergeSort_perm xs _).nodup_iff.2 h
 have d:=List.Pairwise.and h1 h2
 exact d.imp λ⟨ha,hb⟩=>by
  simp only[decide_eq_true_eq]at ha
  have:∀{a b:Int},a<=b->a≠b->a<b:=λh1 h2=>by omega
  exact this ha hb
def ins (n:Int) (xs:List Int):List Int:=xs.filter (λx=>decide (x<n))++n::xs.filter (λx=>decide (n<x))
theorem oU {n:Int}{xs:List Int}(hn:n∉xs) (z:Int):z∈ins n xs↔z=n\/z∈xs:=by
 unfold ins
 simp only[Ad,List.mem_cons,List.mem_filter,decide_eq_true_eq]
 constructor
 · rintro(⟨h,_⟩ | rfl | ⟨h,_⟩)
   · exact .inr h
   · exact .inl rfl
   · exact .inr h
 · rintro(rfl | h)
   · exact .inr (.inl rfl)
   · rcases Int.lt_trichotomy z n with c | a | b
     · exact .inl ⟨h,c⟩
     · exact absurd (a ▸ h) hn
     · exact .inr (.inr ⟨h,b⟩)
theorem oT {n:Int}{xs:List Int}(h:Asc xs):Asc (ins n xs):=by
 unfold ins
 refine List.pairwise_append.2 ⟨h.filter _,List.pairwise_cons.2 ⟨λz c=>?_,h.filter _⟩,λa ha b hb=>?_⟩
 · simp only[List.mem_filter,decide_eq_true_eq]at c;exact c.2
 · simp only[List.mem_filter,decide_eq_true_eq]at ha
   rcases List.mem_cons.1 hb with rfl | hb
   · exact ha.2
   · simp only[List.mem_filter,decide_eq_true_eq]at hb;omega
theorem tZ {n:Int}{xs:List Int}(hn:n∉xs) (h:Asc xs):(ins n xs).length=xs.length+1:=by
 have h1:(n::xs).Nodup:=List.nodup_cons.2 ⟨hn,gT h⟩
 have h2:(ins n xs).Perm (n::xs):=(List.perm_ext_iff_of_nodup (gT (oT h)) h1).2 λz=>by rw[oU hn,List.mem_cons]
 rw[h2.length_eq,z8]
theorem uU {n:Int}{xs:List Int}(h:Asc xs) (hn:n∉xs){k:Nat}(hk:k<=xs.length) (h1:∀(i:Nat) x,i<k->xs[i]? =some x->x<n) (h2:∀x,xs[k]? =some x->n<x):xs.take k++n::xs.drop k=ins n xs:=by
 refine nj ?_ (oT h) λz=>?_
 · have f:∀z∈xs.take k,z<n:=λz d=>by
    obtain⟨i,c⟩:=List.mem_iff_getElem?.1 d
    rw[List.getElem?_take]at c
    split at c
    · rename_i g;exact h1 i z g c
    · cases c
   have hD:∀z∈xs.drop k,n<z:=λz d=>by
    obtain⟨i,c⟩:=List.mem_iff_getElem?.1 d
    rw[List.getElem?_drop]at c
    have j:=(bK.1 c).1
    have hx:xs[k]? =some (xs[k]'(by omega)):=bJ (by omega)
    have:=h2 _ hx
    rcases Nat.eq_zero_or_pos i with e | e
    · subst e
      rw[Nat.add_zero,hx]at c
      cases c;exact this
    · have:=rt h hx c (by omega)
      omega
   refine List.pairwise_append.2 ⟨h.sublist (List.take_sublist ..),List.pairwise_cons.2 ⟨hD,h.sublist (List.drop_sublist ..)⟩,λa ha b hb=>?_⟩
   have:=f a ha
   rcases List.mem_cons.1 hb with rfl | hb
   · exact this
   · have:=hD b hb;omega
 · rw[oU hn,Ad,List.mem_cons]
   have:z∈xs↔z∈xs.take k\/z∈xs.drop k:=by rw[← Ad,List.take_append_drop]
   rw[this]
   constructor
   · rintro(h | h | h)
     · exact .inr (.inl h)
     · exact .inl h
     · exact .inr (.inr h)
   · rintro(h | h | h)
     · exact .inr (.inl h)
     · exact .inl h
     · exact .inr (.inr h)
end Go.Proofs.YtleekpaohfpooaaGreat
set_option linter.unusedVariables false
set_option linter.unusedSimpArgs false
namespace Go.Proofs.YtleekpaohfpooaaGreat
open Go Go.Wk Go.Proofs
def vertOk (a:Arena) (i:Nat) (row:List Int):Bool:=(match a.Owner[i]? with | some o=>inR 2 o | none=>false)&&decide ((1:Int)<=row.length)&&decide ((row.length:Int)<=16)&&da (a.Owner.length:Int) row
def eH (a:Arena):Bool:=decide (1<=(a.Owner.length:Int))&&decide ((a.Owner.length:Int)<=256)&&((a.Next.length:Int)==(a.Owner.length:Int))&&a.Next.zipIdx.all (λp=>vertOk a p.2 p.1)
def c9 (g:Parity):Bool:=eH g.Arena&&((g.Prio.length:Int)==(g.Arena.Owner.length:Int))&&g.Prio.all (inR 41)
theorem nX (a:Arena):jS a=some (eH a):=by
 unfold jS eH
 rw[cV,bI]
 cases h1:(decide (1<=(a.Owner.length:Int))&&decide ((a.Owner.length:Int)<=256)) with
 | false=>rfl
 | true=>
  simp only[sh,decide_eq_true_eq]at h1
  simp only[zZ,cond_false,bI,Bool.true_and,bne]
  cases h2:((a.Next.length:Int)==(a.Owner.length:Int)) with
  | false=>rfl
  | true=>
   have hl:a.Owner.length=a.Next.length:=by have:=beq_iff_eq.1 h2;omega
   rw[kT (f:=iy a) (r:=false) (vertOk a) (xs:=a.Next) hl (λi row hx=>by
    have g:=(bK.1 hx).1
    obtain⟨o,c⟩:∃o,a.Owner[i]? =some o:=⟨_,bJ (by omega)⟩
    have d:vertOk a i row=(inR 2 o&&decide ((1:Int)<=row.length)&&decide ((row.length:Int)<=16)&&da (a.Owner.length:Int) row):=by unfold vertOk;rw[c]
    rw[d]
    unfold iy
    rw[bS,bS,c,hx]
    simp only[bI,cV,in2]
    cases inR 2 o with
    | false=>rfl
    | true=>
     simp only[zZ,cond_false,bI,tX,Bool.true_and]
     cases e:decide ((1:Int)<=row.length) with
     | false=>rfl
     | true=>
      simp only[zZ,cond_false,bI,Bool.true_and]
      cases b:decide ((row.length:Int)<=16) with
      | false=>rfl
      | true=>
       have b:=of_decide_eq_true b
       rw[lR (by omega) (by omega) (by omega)]
       simp only[zZ,cond_false,bI,Bool.true_and]
       cases da (a.Owner.length:Int) row <;> rfl)]
   simp only[zZ,cond_false,bI,Bool.true_and]
   cases List.all a.Next.zipIdx (λp=>vertOk a p.2 p.1) <;> rfl
theorem nc (g:Parity):ja g=some (c9 g):=by
 unfold ja c9
 rw[nX,bI,orE,bI,bne,← Bool.not_and]
 cases h1:(eH g.Arena&&((g.Prio.length:Int)==(g.Arena.Owner.length:Int))) with
 | false=>rfl
 | true=>
  simp only[zZ,cond_false]
  rw[eN (f:=gl g) (r:=false) (inR 41) (xs:=g.Prio) rfl (λi y hy=>by
   unfold gl
   rw[bS,hy,bI,cV,bI,in41]
   cases inR 41 y <;> rfl)]
  cases g.Prio.all (inR 41) <;> rfl
theorem eS {g:Parity}(h:c9 g=true):1<=g.Arena.Owner.length/\g.Arena.Owner.length<=256/\g.Arena.Next.length=g.Arena.Owner.length/\g.Prio.length=g.Arena.Owner.length /\
 (∀(i:Nat) row,g.Arena.Next[i]? =some row->1<=row.length/\row.length<=16/\da (g.Arena.Owner.length:Int) row=true):=by
 simp only[c9,eH,sh,decide_eq_true_eq,beq_iff_eq]at h
 obtain⟨⟨⟨⟨⟨h1,h2⟩,b⟩,a⟩,c⟩,d⟩:=h
 refine⟨by omega,by omega,by omega,by omega,λi row hr=>?_⟩
 rw[List.all_eq_true]at a
 have:=a (row,i) (List.mem_zipIdx_iff_getElem?.2 hr)
 simp only[vertOk,sh,decide_eq_true_eq]at this
 exact⟨by omega,by omega,this.2⟩
end Go.Proofs.YtleekpaohfpooaaGreat
set_option linter.unusedVariables false
set_option linter.unusedSimpArgs false
namespace Go.Proofs.YtleekpaohfpooaaGreat
open Go Go.Wk Go.Proofs
theorem pQ {g:Parity}(h:c9 g=true):(∀o∈g.Arena.Owner,inR 2 o=true)/\(∀x∈g.Prio,inR 41 x=true):=by
 have e:=eS h
 simp only[c9,eH,sh,decide_eq_true_eq,beq_iff_eq]at h
 obtain⟨⟨⟨⟨⟨h1,h2⟩,f⟩,a⟩,j⟩,b⟩:=h
 rw[List.all_eq_true]at a b
 refine⟨λo d=>?_,b⟩
 obtain⟨i,c⟩:=List.mem_iff_getElem?.1 d
 have k:=(bK.1 c).1
 have hr:g.Arena.Next[i]? =some (g.Arena.Next[i]'(by omega)):=bJ (by omega)
 have:=a (_,i) (List.mem_zipIdx_iff_getElem?.2 hr)
 simp only[vertOk,c,sh]at this
 exact this.1.1.1
theorem vO {g:Parity}(h1:1<=g.Arena.Owner.length) (h2:g.Arena.Owner.length<=256) (f:g.Arena.Next.length=g.Arena.Owner.length) (j:g.Prio.length=g.Arena.Owner.length) (a:∀row∈g.Arena.Next,1<=row.length/\row.length<=16/\da (g.Arena.Owner.length:Int) row=true) (b:∀o∈g.Arena.Owner,inR 2 o=true) (c:∀x∈g.Prio,inR 41 x=true):c9 g=true:=by
 simp only[c9,eH,sh,decide_eq_true_eq,beq_iff_eq]
 refine⟨⟨⟨⟨⟨by omega,by omega⟩,by omega⟩,?_⟩,by omega⟩,by rw[List.all_eq_true];exact c⟩
 rw[List.all_eq_true]
 rintro⟨row,i⟩ hx
 have hx:=List.mem_zipIdx_iff_getElem?.1 hx
 dsimp only at hx ⊢
 have k:=(bK.1 hx).1
 obtain⟨k1,l,e⟩:=a row (bQ hx)
 have d:g.Arena.Owner[i]? =some (g.Arena.Owner[i]'(by omega)):=bJ (by omega)
 have:=b _ (List.getElem_mem (show i<g.Arena.Owner.length by omega))
 unfold vertOk
 simp only[d,this,e,Bool.and_true,Bool.true_and,sh,decide_eq_true_eq]
 exact⟨by omega,by omega⟩
end Go.Proofs.YtleekpaohfpooaaGreat
set_option linter.unusedVariables false
set_option linter.unusedSimpArgs false
namespace Go.Proofs.YtleekpaohfpooaaGreat
open Go Go.Wk Go.Proofs
def sigOk (p:Sig):Bool:=(decide (1<=p.In)&&decide (p.In<=2))&&(decide (1<=p.Out)&&decide (p.Out<=2))
theorem fJ (p:Sig):jm p=some (sigOk p):=by
 unfold jm sigOk
 simp only[cV,bI]
 cases(decide (1<=p.In)&&decide (p.In<=2)) <;> simp
theorem lK (p:Sig):lJ p=some (sigOk p):=by
 unfold lJ sigOk
 by_cases h1:1<=p.In <;> by_cases h2:p.In<=2 <;> by_cases a:1<=p.Out <;> by_cases b:p.Out<=2 <;> simp[h1,h2,a,b]
theorem kP (xs:List Int){n:Int}(h0: -1000000000000000000<=n) (h1:n<=1000000000000000000):gO xs n=some (xs.all (inR n)):=by
 unfold gO
 have hm:=eN (f:=gw xs n) (r:=false) (inR n) (xs:=xs) rfl (λi y hy=>by
  unfold gw
  rw[wr' (by omega) (by omega),bS,hy,bI,cV,bI]
  have:(decide (0<=y)&&decide (y<=n-1))=inR n y:=by
   unfold inR
   congr 1
   exact decide_eq_decide.2 (by omega)
  rw[this]
  cases inR n y <;> rfl)
 rw[hm,bI]
 cases xs.all (inR n) <;> rfl
theorem oN (xs:List Int) (n:Int):fX xs n=some (xs.all (inR n)):=by
 unfold fX
 rw[dZ (λx=>decide (x<0)||decide (n<=x)) (λx _=>by
  unfold ed
  by_cases h:x<0 <;> simp[h]),bI]
 congr 1
 rw[List.all_eq_not_any_not]
 congr 2
 funext x
 unfold inR
 by_cases h:x<0 <;> by_cases a:n<=x <;> simp[h,a] <;> omega
def pw (n:Int):Int:=if n=1 then 2 else 4
theorem dg {n:Int}(h:n=1\/n=2):de n=some (pw n):=by
 unfold de
 rcases h with rfl | rfl
 · rw[gQ (by omega)]
   have:eV (1,1)=some (.inr (.inr (0,2))):=by decide
   rw[this,bI,kE,gQ (by omega)]
   rfl
 · rw[gQ (by omega)]
   have:eV (2,1)=some (.inr (.inr (1,2))):=by decide
   rw[this,bI,kE,gQ (by omega)]
   have:eV (1,2)=some (.inr (.inr (0,4))):=by decide
   rw[this,bI,kE,gQ (by omega)]
   rfl
theorem oS {n:Int}(h:n=1\/n=2):nn n=some ()/\IntKind.i64.wrap (1 * 2 ^ (min (Int.toNat n) (IntKind.bits IntKind.i64)))=pw n:=by
 rcases h with rfl | rfl <;> decide
theorem ez {p:Sig}(h:sigOk p=true):(p.In=1\/p.In=2)/\(p.Out=1\/p.Out=2):=by
 simp only[sigOk,sh,decide_eq_true_eq]at h
 omega
theorem gk (n:Int):2<=pw n/\pw n<=4:=by unfold pw;split <;> omega
end Go.Proofs.YtleekpaohfpooaaGreat
set_option linter.unusedVariables false
set_option linter.unusedSimpArgs false
namespace Go.Proofs.YtleekpaohfpooaaGreat
open Go Go.Wk Go.Proofs
theorem xN {xs:List Int}(h:Asc xs){n:Int}(hn:n∉xs) (hl:xs.length<=100000):jz xs n=some (ins n xs):=by
 obtain⟨o,w1,v⟩:=cC (f:=fN xs n) (λj (s:Int)=>s=(j:Int)/\j<=xs.length/\∀(i:Nat) x,i<j->xs[i]? =some x->x<n) (λ_=>False) (λs=>∃k:Nat,s=(k:Int)/\k<=xs.length/\(∀(i:Nat) x,i<k->xs[i]? =some x->x<n)/\∀x,xs[k]? =some x->n<x) xs.length (λj s ⟨e,hj,c⟩=>by
  subst e
  unfold fN
  by_cases a:(j:Int)<(xs.length:Int)
  · have b:xs[j]? =some (xs[j]'(by omega)):=bJ (by omega)
    have hm:=List.getElem_mem (show j<xs.length by omega)
    generalize xs[j]'(by omega)=x at b hm
    simp only[a,decide_true,cond_true,bS,b,bI]
    by_cases d:x<n
    · simp only[d,decide_true,cond_true]
      refine⟨_,rfl,by omega,by rw[wr' (by omega) (by omega)];omega,by omega,λi y m hy=>?_⟩
      by_cases p:i=j
      · subst p;rw[b]at hy;cases hy;exact d
      · exact c i y (by omega) hy
    · simp only[d,decide_false,cond_false]
      refine⟨_,rfl,j,rfl,hj,c,λy hy=>?_⟩
      rw[b]at hy
      cases hy
      have:x≠n:=λe=>hn (e ▸ hm)
      omega
  · simp only[a,decide_false,cond_false,bI]
    exact⟨_,rfl,j,rfl,hj,c,λy hy=>by have:=(bK.1 hy).1;omega⟩)
  (2 ^ 64) 0 0 (by omega) ⟨rfl,by omega,λi x m=>by omega⟩ (by omega)
 match o,v with
 | .inr s,⟨k,e,hk,h1,h2⟩=>
  subst e
  unfold jz
  rw[w1,bI,bV]
  have hc:(bH (bif decide ((k:Int)<(xs.length:Int)) then bH (idx xs (k:Int)) λg=>some (g==n) else some false) λu=>bif u then some xs else
   bH (subS xs 0 (k:Int)) λw=>bH (dA w) λz=>bH (appS 8 z [n]) λA=>bH (subS xs (k:Int) (xs.length:Int)) λB=>bH (appS 8 A B) λC=>some C)=some (xs.take k++[n]++xs.drop k):=by
   have hp:(bif decide ((k:Int)<(xs.length:Int)) then bH (idx xs (k:Int)) λg=>some (g==n) else some false)=some false:=by
    by_cases a:(k:Int)<(xs.length:Int)
    · have l:xs[k]? =some (xs[k]'(by omega)):=bJ (by omega)
      have:=h2 _ l
      have q:(xs[k]'(by omega)==n)=false:=by
       rw[beq_eq_false_iff_ne];omega
      simp only[a,decide_true,cond_true,bS,l,bI,q]
    · simp only[a,decide_false,cond_false]
   have r:subS xs 0 (k:Int)=some (xs.take k):=by
    unfold subS
    rw[if_pos (by omega),z7];rfl
   have t:subS xs (k:Int) (xs.length:Int)=some (xs.drop k):=by
    unfold subS
    rw[if_pos (by omega),z7,z7,List.take_length]
   have ht:(xs.take k).length<=100000:=by rw[z9];omega
   rw[hp,bI]
   simp only[cond_false]
   rw[r,bI]
   unfold dA
   rw[appL (by rw[Aa];omega) rfl,bI,bI,List.nil_append,app1 (by omega) rfl,bI,t,bI,appL (by rw[z5,List.length_drop,List.length_singleton];omega) rfl]
   rfl
  rw[hc,List.append_assoc,List.singleton_append,uU h hn hk h1 h2]
theorem uA {xs:List Int}(hl:xs.length<=10000000):dA xs=some xs:=by
 unfold dA
 rw[appL (by rw[Aa];omega) rfl];rfl
end Go.Proofs.YtleekpaohfpooaaGreat
set_option linter.unusedVariables false
set_option linter.unusedSimpArgs false
namespace Go.Proofs.YtleekpaohfpooaaGreat
open Go Go.Wk Go.Proofs
def pairOk (n:Int) (x:Pair):Bool:=da n x.Ask&&da n x.Give
def pairsOk (xs:List Pair) (n:Int):Bool:=decide ((xs.length:Int)<=4)&&xs.all (pairOk n)
section
variable {xs:List Pair}{n:Int}(h0:0<=n) (h1:n<=256) (hb:∀x∈xs,x.Ask.length<=1000000000/\x.Give.length<=1000000000)
include h0 h1 hb
omit hb in
theorem oG {s:List Int}(hl:s.length<=1000000000):mP s n=some (da n s):=by
 unfold mP
 rw[cV,lR h0 (by omega) hl]
 simp[h0,h1]
theorem na:jT xs n=some (pairsOk xs n):=by
 unfold jT pairsOk
 rw[cV]
 simp only[h0,h1,decide_true,Bool.and_self,bI,zZ,cond_false,tX]
 cases decide ((xs.length:Int)<=4) with
 | false=>rfl
 | true=>
  rw[eN (f:=iB xs n) (r:=false) (pairOk n) (xs:=xs) rfl (λi x hx=>by
   obtain⟨a,b⟩:=hb x (bQ hx)
   unfold iB pairOk
   rw[bS,hx]
   simp only[bI,oG h0 h1 a,oG h0 h1 b]
   cases da n x.Ask <;> cases da n x.Give <;> rfl)]
  simp only[zZ,cond_false,bI,Bool.true_and]
  cases xs.all (pairOk n) <;> rfl
end
end Go.Proofs.YtleekpaohfpooaaGreat
set_option linter.unusedVariables false
set_option linter.unusedSimpArgs false
namespace Go.Proofs.YtleekpaohfpooaaGreat
open Go Go.Wk Go.Proofs
theorem p5 {row:List Int}{v:Int}:gJ row v=some (decide (v∈row)):=by
 unfold gJ
 rw[eN (f:=gN row v) (r:=true) (xs:=row) (λx=> !(x==v)) rfl (λi x hx=>by
  unfold gN
  rw[bS,hx,bI]
  cases x==v <;> rfl)]
 by_cases h:v∈row
 · have:(row.all λx=> !(x==v))=false:=by
    rw[List.all_eq_false]
    exact⟨v,h,by simp⟩
   rw[this,decide_eq_true h];rfl
 · have:(row.all λx=> !(x==v))=true:=by
    rw[List.all_eq_true]
    intro x hx
    have:x≠v:=λe=>h (e ▸ hx)
    simp[this]
   rw[this,decide_eq_false h];rfl
theorem xO {xs:List Int}(h:Asc xs){n:Int}(hn:n∈xs) (hl:xs.length<=100000):jz xs n=some xs:=by
 obtain⟨k,hk⟩:=List.getElem?_of_mem hn
 have c:=(bK.1 hk).1
 obtain⟨o,w1,b⟩:=cC (f:=fN xs n) (λj (s:Int)=>s=(j:Int)/\j<=k) (λ_=>False) (λs=>s=(k:Int)) xs.length (λj s ⟨e,hj⟩=>by
  subst e
  have a:xs[j]? =some (xs[j]'(by omega)):=bJ (by omega)
  generalize xs[j]'(by omega)=x at a
  unfold fN
  rw[decide_eq_true (show(j:Int)<(xs.length:Int) by omega),cond_true,bS,a,bI,bI]
  by_cases e:j=k
  · subst e
    rw[a]at hk
    cases hk
    rw[decide_eq_false (Int.lt_irrefl _),cond_false]
    exact⟨_,rfl,rfl⟩
  · have:=rt h a hk (by omega)
    rw[decide_eq_true this,cond_true]
    exact⟨_,rfl,by omega,by rw[wr' (by omega) (by omega)];omega,by omega⟩)
  (2 ^ 64) 0 0 (by omega) ⟨rfl,Nat.zero_le _⟩ (by omega)
 match o,b with
 | .inr s,e=>
  have e:s=(k:Int):=e
  subst e
  unfold jz
  rw[w1,bI,bV,decide_eq_true (show(k:Int)<(xs.length:Int) by omega),cond_true,bS,hk,bI,bI]
  simp
theorem wC {xs:List Int}(h:Asc xs) (n:Int) (hl:xs.length<=100000):∃R,jz xs n=some R/\Asc R/\∀z,z∈R↔z=n\/z∈xs:=by
 by_cases hn:n∈xs
 · exact⟨xs,xO h hn hl,h,λz=>⟨.inr,λk=>k.elim (λe=>e ▸ hn) id⟩⟩
 · exact⟨_,xN h hn hl,oT h,oU hn⟩
structure St (n:Nat) (xs:List Int):Prop where
 asc:Asc xs
 rng:∀x∈xs,0<=x/\x<n
theorem St.len {n:Nat}{xs:List Int}(h:St n xs):xs.length<=n:=dP n xs (gT h.asc) h.rng
theorem St.ok {n:Nat}{xs:List Int}(h:St n xs){m:Int}(hm:(n:Int)<=m):da m xs=true:=ig.2 ⟨λx hx=>by have:=h.rng x hx;omega,h.asc⟩
theorem St.of {n:Nat}{xs:List Int}(h:da (n:Int) xs=true):St n xs:=⟨(ig.1 h).2,(ig.1 h).1⟩
theorem St.filter {n:Nat}{xs:List Int}(h:St n xs) (p:Int->Bool):St n (xs.filter p):=⟨h.asc.filter _,λx hx=>h.rng x (List.mem_filter.1 hx).1⟩
end Go.Proofs.YtleekpaohfpooaaGreat
set_option linter.unusedVariables false
set_option linter.unusedSimpArgs false
namespace Go.Proofs.YtleekpaohfpooaaGreat
open Go Go.Wk Go.Proofs
def ltd (p:Sig):Int:=pw p.In * pw p.Out
theorem oO {p:Sig}(hs:sigOk p=true):dt p=some (ltd p):=by
 unfold dt
 rw[fJ,hs]
 obtain⟨a,b⟩:=ez hs
 unfold ltd
 simp only[bI,zZ,cond_false]
 rcases a with h | h <;> rcases b with k | k <;> rw[h,k] <;> decide
def detRow (p:Sig) (n:Int) (row:List Int):Bool:=((row.length:Int)==ltd p)&&row.all (inR n)
def detOk (p:Sig) (d:Det):Bool:=decide (1<=(d.Next.length:Int))&&decide ((d.Next.length:Int)<=48)&&pairsOk d.Pairs d.Next.length&&d.Next.all (detRow p d.Next.length)
section
variable {p:Sig}{d:Det}(hs:sigOk p=true) (hb:∀x∈d.Pairs,x.Ask.length<=1000000000/\x.Give.length<=1000000000)
include hs hb
theorem hU:jl p d=some (detOk p d):=by
 unfold jl detOk
 rw[fJ,hs]
 simp only[bI,zZ,cond_false,cV]
 cases h1:(decide (1<=(d.Next.length:Int))&&decide ((d.Next.length:Int)<=48)) with
 | false=>rfl
 | true=>
  simp only[sh,decide_eq_true_eq]at h1
  rw[eN (f:=kc p d) (r:=false) (detRow p d.Next.length) (xs:=d.Next) rfl (λi row hx=>by
   unfold kc detRow
   rw[bS,hx]
   simp only[bI,oO hs,kP row (n:=(d.Next.length:Int)) (by omega) (by omega),bne]
   cases((row.length:Int)==ltd p) <;> cases row.all (inR d.Next.length) <;> rfl),na (by omega) (by omega) hb]
  simp only[zZ,cond_false,bI,Bool.true_and]
  cases d.Next.all (detRow p d.Next.length) <;> cases pairsOk d.Pairs d.Next.length <;> rfl
omit hs hb in
theorem dc (h:detOk p d=true):1<=d.Next.length/\d.Next.length<=48/\d.Pairs.length<=4/\∀row∈d.Next,RowIn d.Next.length (ltd p) row:=by
 simp only[detOk,pairsOk,sh,decide_eq_true_eq,List.all_eq_true]at h
 obtain⟨⟨⟨h1,h2⟩,b,_⟩,a⟩:=h
 refine⟨by omega,by omega,by omega,λrow hr=>?_⟩
 have:=a row hr
 simp only[detRow,sh,beq_iff_eq,List.all_eq_true,fg]at this
 exact this
end
end Go.Proofs.YtleekpaohfpooaaGreat
set_option linter.unusedVariables false
set_option linter.unusedSimpArgs false
namespace Go.Proofs.YtleekpaohfpooaaGreat
open Go Go.Wk Go.Proofs
def ltr (p:Sig):Int:=pw p.In * pw p.Out
theorem om {p:Sig}(hs:sigOk p=true):4<=ltr p/\ltr p<=16:=by
 obtain⟨a,b⟩:=ez hs
 unfold ltr pw
 rcases a with h | h <;> rcases b with k | k <;> rw[h,k] <;> decide
theorem iz {p:Sig}(hs:sigOk p=true):dt p=some (ltr p):=by
 unfold dt
 rw[fJ,hs]
 obtain⟨a,b⟩:=ez hs
 unfold ltr
 simp only[bI,zZ,cond_false]
 rcases a with h | h <;> rcases b with k | k <;> rw[h,k] <;> decide
theorem j6 {p:Sig}(hs:sigOk p=true):eE p=some (ltr p):=by
 unfold eE
 obtain⟨a,b⟩:=ez hs
 unfold ltr
 rcases a with h | h <;> rcases b with k | k <;> rw[h,k] <;> decide
def cH (p:Sig) (c:Clause):Bool:=decide (1<=c.Kind)&&decide (c.Kind<=7)&&da (ltr p) c.A&&da (ltr p) c.B&&(c.Kind==2||c.Kind==3||c.Kind==7||((c.B.length:Int)==0))
theorem m0 {p:Sig}(hs:sigOk p=true){c:Clause}(hb:Clause.bd c):i7 p c=some (cH p c):=by
 obtain⟨_,⟨a,_⟩,⟨hB,_⟩⟩:=hb
 have hl:=om hs
 unfold i7 cH mR
 rw[fJ,hs,iz hs]
 simp only[bI,zZ,cond_false,cV,lR (xs:=c.A) (n:=ltr p) (by omega) (by omega) (by omega),lR (xs:=c.B) (n:=ltr p) (by omega) (by omega) (by omega),orE,andE]
 generalize decide (1<=c.Kind)=b1
 generalize decide (c.Kind<=7)=b2
 generalize da (ltr p) c.A=b3
 generalize da (ltr p) c.B=b4
 generalize(c.Kind==2)=b5
 generalize(c.Kind==3)=b6
 generalize(c.Kind==7)=b7
 generalize((c.B.length:Int)==0)=b8
 cases b1 <;> cases b2 <;> cases b3 <;> cases b4 <;> cases b5 <;> cases b6 <;> cases b7 <;> cases b8 <;> rfl
theorem qi {p:Sig}(hs:sigOk p=true){c:Clause}(hb:Clause.bd c):jZ p c=some (cH p c):=by
 obtain⟨_,⟨d,_⟩,⟨hB,_⟩⟩:=hb
 unfold jZ cH kC
 have a:decide (c.Kind<1)= !decide (1<=c.Kind):=by rw[← decide_not];exact decide_eq_decide.2 (by omega)
 have b:decide (7<c.Kind)= !decide (c.Kind<=7):=by rw[← decide_not];exact decide_eq_decide.2 (by omega)
 rw[j6 hs,a,b]
 simp only[bI,pt (xs:=c.A) (n:=ltr p) (by omega),pt (xs:=c.B) (n:=ltr p) (by omega),orE,andE]
 generalize decide (1<=c.Kind)=b1
 generalize decide (c.Kind<=7)=b2
 generalize da (ltr p) c.A=b3
 generalize da (ltr p) c.B=b4
 generalize(c.Kind==2)=b5
 generalize(c.Kind==3)=b6
 generalize(c.Kind==7)=b7
 generalize((c.B.length:Int)==0)=b8
 cases b1 <;> cases b2 <;> cases b3 <;> cases b4 <;> cases b5 <;> cases b6 <;> cases b7 <;> cases b8 <;> rfl
theorem pU {p:Sig}(hs:sigOk p=true){cs:List Clause}(hb:∀c∈cs,Clause.bd c):fx p cs=some (decide ((cs.length:Int)<=3)&&cs.all (cH p)):=by
 unfold fx
 rw[fJ,hs]
 have e:decide (3<(cs.length:Int))= !decide ((cs.length:Int)<=3):=by rw[← decide_not];exact decide_eq_decide.2 (by omega)
 simp only[bI,zZ,cond_false,e]
 cases decide ((cs.length:Int)<=3) with
 | false=>rfl
 | true=>
  simp only[zZ,cond_false,Bool.true_and]
  rw[eN (f:=fB p cs) (r:=false) (cH p) (xs:=cs) rfl (λi c hc=>by
   unfold fB
   rw[bS,hc,bI,m0 hs (hb c (bQ hc)),bI]
   cases cH p c <;> rfl)]
  cases cs.all (cH p) <;> rfl
theorem lZ {p:Sig}(hs:sigOk p=true){cs:List Clause}(hb:∀c∈cs,Clause.bd c):eI p cs=some (decide ((cs.length:Int)<=3)&&cs.all (cH p)):=by
 unfold eI
 rw[dv (λc=> !cH p c) (λc hc=>by
  unfold ec
  rw[qi hs (hb c hc)];rfl)]
 simp only[bI,andE]
 rw[List.all_eq_not_any_not]
end Go.Proofs.YtleekpaohfpooaaGreat
set_option linter.unusedVariables false
set_option linter.unusedSimpArgs false
namespace Go.Proofs.YtleekpaohfpooaaGreat
open Go Go.Wk Go.Proofs
abbrev Key:=Int×Int
def loc (K:List Key) (k:Key):Option Nat:=K.findIdx? (λx=>k==x)
def addK (K:List Key) (k:Key):List Key:=match loc K k with | some _=>K | none=>K++[k]
def atK (K:List Key) (k:Key):Int:=match loc K k with | some i=>(i:Int) | none=>(K.length:Int)
def ixm (n:Nat) (K:List Key):List (Key×Int):=(K.zipIdx n).map λp=>(p.1,(p.2:Int))
theorem pA (n:Nat) (x:Key) (K:List Key):ixm n (x::K)=(x,(n:Int))::ixm (n+1) K:=rfl
theorem sU (x:Key) (K:List Key) (k:Key):loc (x::K) k=if k=x then some 0 else(loc K k).map (· + 1):=by
 unfold loc
 rw[List.findIdx?_cons]
 by_cases h:k=x
 · simp[h]
 · have:(k==x)=false:=by rw[beq_eq_false_iff_ne];exact h
   rw[this,if_neg h];rfl
theorem sN:∀(K:List Key) (n:Nat) (k:Key),getK (ixm n K) k=(loc K k).map λi=>((n+i:Nat):Int)
 | [],_,_=>rfl
 | x::K,n,k=>by
  rw[pA,sU]
  show(if k=x then some (n:Int) else getK (ixm (n+1) K) k)=_
  rw[sN K (n+1) k]
  by_cases h:k=x
  · simp[h]
  · rw[if_neg h,if_neg h]
    cases loc K k with
    | none=>rfl
    | some i=>
     show some ((n+1+i:Nat):Int)=some ((n+(i+1):Nat):Int)
     congr 2;omega
theorem tk:∀(K:List Key) (n:Nat) (k:Key),loc K k=none->putK (ixm n K) k ((n+K.length:Nat):Int)=ixm n (K++[k])
 | [],n,k,_=>rfl
 | x::K,n,k,h=>by
  rw[sU]at h
  have hk:¬k=x:=λe=>by rw[if_pos e]at h;cases h
  rw[if_neg hk]at h
  have a:loc K k=none:=by cases e:loc K k with
   | none=>rfl
   | some i=>rw[e]at h;cases h
  rw[pA,List.cons_append,pA]
  show(if k=x then _ else _::putK (ixm (n+1) K) k _)=_
  rw[if_neg hk,show n+(x::K).length=(n+1)+K.length from by simp only[z8];omega,tk K (n+1) k a]
theorem wO (K:List Key){k:Key}(a:kwI2 k=true):mget kwI2 (ixm 0 K) k (0:Int)=some (match loc K k with | some i=>((i:Int),true) | none=>(0,false)):=by
 unfold mget
 rw[if_pos a,sN]
 cases loc K k with
 | none=>rfl
 | some i=>simp
theorem wQ {K:List Key}{k:Key}(a:kwI2 k=true) (h:loc K k=none):mset kwI2 (ixm 0 K) k (K.length:Int)=some (ixm 0 (K++[k])):=by
 unfold mset
 rw[if_pos a]
 have:=tk K 0 k h
 rw[Nat.zero_add]at this
 rw[this]
theorem zN {k:Key}(h1:0<=k.1) (h2:k.1<=1000) (a:0<=k.2) (b:k.2<=1000):kwI2 k=true:=by
 unfold kwI2 wf2
 simp only[decide_eq_true_eq]
 omega
theorem sw (K:List Key) (k:Key):K.length<=(addK K k).length/\(addK K k).length<=K.length+1:=by
 unfold addK
 cases loc K k <;> simp
theorem pc {K:List Key}{k:Key}{i:Nat}{v:Key}(h:K[i]? =some v):(addK K k)[i]? =some v:=by
 unfold addK
 cases loc K k with
 | some _=>exact h
 | none=>
  have:=(bK.1 h).1
  dsimp only
  rw[List.getElem?_append_left this];exact h
theorem sx {K:List Key}{k x:Key}(h:x∈addK K k):x∈K\/x=k:=by
 unfold addK at h
 cases e:loc K k with
 | some _=>rw[e]at h;exact .inl h
 | none=>rw[e]at h;simpa using h
theorem wK {K:List Key}{k:Key}{i:Nat}(h:loc K k=some i):K[i]? =some k:=by
 unfold loc at h
 obtain⟨h1,h2,a⟩:=List.findIdx?_eq_some_iff_getElem.1 h
 have:k=K[i]:=by simpa using h2
 rw[bJ h1,← this]
theorem wJ {K:List Key}{k:Key}(h:loc K k=none):k∉K:=λhm=>by
 unfold loc at h
 rw[List.findIdx?_eq_none_iff]at h
 have:=h k hm
 simp at this
theorem xC (K:List Key) (k:Key):0<=atK K k/\(addK K k)[(atK K k).toNat]? =some k:=by
 unfold atK addK
 cases h:loc K k with
 | none=>exact⟨by dsimp only;omega,by dsimp only;rw[z7];simp⟩
 | some i=>exact⟨by dsimp only;omega,by dsimp only;rw[z7];exact wK h⟩
theorem tQ {K:List Key}(hn:K.Nodup) (k:Key):(addK K k).Nodup:=by
 unfold addK
 cases h:loc K k with
 | none=>
  dsimp only
  refine List.nodup_append.2 ⟨hn,by simp,λa ha b hb e=>?_⟩
  rw[z6]at hb
  exact wJ h (hb ▸ e ▸ ha)
 | some i=>exact hn
def rowK (a:Int->Key) (K:List Key):Nat->List Key×List Int
 | 0=>(K,[])
 | j+1=>(addK (rowK a K j).1 (a j),(rowK a K j).2++[atK (rowK a K j).1 (a j)])
structure RowK (ky:Int->Key) (K:List Key) (j:Nat) (K':List Key) (row:List Int):Prop where
 pre:∀(i:Nat) v,K[i]? =some v->K'[i]? =some v
 len:K.length<=K'.length
 le:K'.length<=K.length+j
 nod:K.Nodup->K'.Nodup
 rl:row.length=j
 at_:∀i:Nat,i<j->∃x,row[i]? =some x/\0<=x/\K'[x.toNat]? =some (ky i)
 mem:∀v∈K',v∈K\/∃i:Nat,i<j/\v=ky i
theorem lO (b:Int->Key) (K:List Key):∀j,RowK b K j (rowK b K j).1 (rowK b K j).2
 | 0=>⟨λ_ _ h=>h,Nat.le_refl _,Nat.le_refl _,id,rfl,λi c=>absurd c (Nat.not_lt_zero i),λv h=> .inl h⟩
 | j+1=>by
  have h:=lO b K j
  unfold rowK
  generalize rowK b K j=F at *
  have hl:=sw F.1 (b j)
  obtain⟨f,a1⟩:=xC F.1 (b j)
  refine⟨λi v a=>pc (h.pre i v a),Nat.le_trans h.len hl.1,?_,λhn=>tQ (h.nod hn) _,by simp[h.rl],λi c=>?_,λv a=>?_⟩
  · have:=h.le;dsimp only;omega
  · by_cases e:i=j
    · subst e
      refine⟨_,by rw[← h.rl];simp,f,a1⟩
    · obtain⟨x,d,l,m⟩:=h.at_ i (by omega)
      have g:=(bK.1 d).1
      exact⟨x,by rw[List.getElem?_append_left g];exact d,l,pc m⟩
  · rcases sx a with a | a
    · rcases h.mem v a with k | ⟨i,c,e⟩
      · exact .inl k
      · exact .inr ⟨i,by omega,e⟩
    · exact .inr ⟨j,by omega,a⟩
structure Prod (ky:Key->Int->Key) (k:Nat) (K:List Key) (i:Nat) (R:List (List Int)):Prop where
 nod:K.Nodup
 zero:K[0]? =some (0,0)
 il:i<=K.length
 rl:R.length=i
 row:∀(j:Nat) r,R[j]? =some r->r.length=k/\∃v,K[j]? =some v/\∀x:Nat,x<k->∃y,r[x]? =some y/\0<=y/\K[y.toNat]? =some (ky v x)
 src:∀(q:Nat) u,K[q]? =some u->q=0\/∃(j x:Nat) (v:Key),j<q/\j<i/\K[j]? =some v/\x<k/\u=ky v x
theorem Prod.init (a:Key->Int->Key) (k:Nat):Prod a k [(0,0)] 0 []:=⟨by simp,rfl,by simp,rfl,λj r h=>by simp at h,λq u h=>by
 cases q with
 | zero=>exact .inl rfl
 | succ q=>simp at h⟩
theorem Prod.step {d:Key->Int->Key}{k:Nat}{K:List Key}{i:Nat}{R:List (List Int)}(h:Prod d k K i R){v:Key}(g:K[i]? =some v):Prod d k (rowK (d v) K k).1 (i+1) (R++[(rowK (d v) K k).2]):=by
 have r:=lO (d v) K k
 generalize rowK (d v) K k=F at *
 have E:=(bK.1 (r.pre i v g)).1
 refine⟨r.nod h.nod,r.pre 0 _ h.zero,by omega,by simp[h.rl],λj row hj=>?_,λq u m=>?_⟩
 rotate_left
 · have G:=(bK.1 g).1
   by_cases e:q<K.length
   · have f:K[q]? =some K[q]:=bJ e
     have:=r.pre q _ f
     rw[m]at this
     have t:u=K[q]:=Option.some.inj this
     rcases h.src q _ f with h0 | ⟨j,x,l,a1,a2,o,p,s⟩
     · exact .inl h0
     · exact .inr ⟨j,x,l,a1,by omega,r.pre _ _ o,p,by rw[t,s]⟩
   · rcases r.mem u (bQ m) with hm | ⟨x,z,A⟩
     · obtain⟨w,f⟩:=List.getElem?_of_mem hm
       have H:=(bK.1 f).1
       have n:=r.pre w u f
       have:=(List.getElem?_inj (by have:=(bK.1 n).1;exact this) (r.nod h.nod)).1 (n.trans m.symm)
       omega
     · exact .inr ⟨i,x,v,by omega,Nat.lt_succ_self _,r.pre i v g,z,A⟩
 by_cases e:j<R.length
 · rw[List.getElem?_append_left e]at hj
   obtain⟨a,l,b,c⟩:=h.row j row hj
   refine⟨a,l,r.pre j l b,λx hx=>?_⟩
   obtain⟨y,B,C,D⟩:=c x hx
   exact⟨y,B,C,r.pre _ _ D⟩
 · have:j=i:=by
    have:=(bK.1 hj).1
    rw[z5]at this
    simp only[z8,Aa]at this
    have:=h.rl
    omega
   subst this
   rw[← h.rl]at hj
   simp at hj
   subst hj
   exact⟨r.rl,v,r.pre _ _ g,r.at_⟩
theorem pB {A B:Nat}{K:List Key}(hn:K.Nodup) (hk:∀v∈K,0<=v.1/\v.1<A/\0<=v.2/\v.2<B):K.length<=A * B:=by
 have c:∀a b:Int,a<b->a * B+B<=b * B:=λa b h=>by
  have:=Int.mul_le_mul_of_nonneg_right (show a+1<=b by omega) (show(0:Int)<=(B:Int) by omega)
  rwa [Int.add_mul,Int.one_mul]at this
 have h:=dP (A * B) (K.map λv=>v.1 * B+v.2) (by
  rw[List.Nodup,List.pairwise_map]
  refine List.Pairwise.imp_of_mem (λ{a b} ha hb i e=>?_) hn
  obtain⟨d,a1,a2,g⟩:=hk a ha
  obtain⟨k,l,m,n⟩:=hk b hb
  by_cases h1:a.1<b.1
  · have:=c a.1 b.1 h1;omega
  · by_cases h2:b.1<a.1
    · have:=c b.1 a.1 h2;omega
    · have f:a.1=b.1:=by omega
      rw[f]at e
      exact i (Prod.ext f (by omega))) (λx hx=>by
  obtain⟨v,j,rfl⟩:=List.mem_map.1 hx
  obtain⟨d,a1,a2,g⟩:=hk v j
  have h0:0<=v.1 * (B:Int):=Int.mul_nonneg d (by omega)
  have:=c v.1 A a1
  have e:((A * B:Nat):Int)=(A:Int) * (B:Int):=by simp
  rw[e]
  omega)
 rwa [Ah]at h
def plK (part:Key->Int) (K:List Key) (S:List Int):Nat->List Int
 | 0=>[]
 | j+1=>plK part K S j++(match K[j]? with | some v=>if part v∈S then[(j:Int)] else[] | none=>[])
theorem oZ (part:Key->Int) (K:List Key) (S:List Int):∀(j:Nat) (z:Int),z∈plK part K S j↔∃i:Nat,i<j/\z=(i:Int)/\∃v,K[i]? =some v/\part v∈S
 | 0,z=>by simp[plK]
 | j+1,z=>by
  unfold plK
  rw[Ad,oZ part K S j]
  constructor
  · rintro(⟨i,h1,h2⟩ | h)
    · exact⟨i,by omega,h2⟩
    · cases e:K[j]? with
      | none=>rw[e]at h;cases h
      | some v=>
       rw[e]at h
       dsimp only at h
       by_cases a:part v∈S
       · rw[if_pos a,z6]at h
         exact⟨j,by omega,h,v,e,a⟩
       · rw[if_neg a]at h;cases h
  · rintro⟨i,h1,h2,v,b,c⟩
    by_cases e:i=j
    · subst e
      right
      rw[b]
      dsimp only
      rw[if_pos c,z6]
      exact h2
    · exact .inl ⟨i,by omega,h2,v,b,c⟩
theorem ve (part:Key->Int) (K:List Key) (S:List Int):∀j:Nat,Asc (plK part K S j)
 | 0=>List.Pairwise.nil
 | j+1=>by
  unfold plK
  refine List.pairwise_append.2 ⟨ve part K S j,?_,λa ha b hb=>?_⟩
  · cases K[j]? with
    | none=>exact List.Pairwise.nil
    | some v=>dsimp only;split <;> simp
  · obtain⟨i,h1,h2,_⟩:=(oZ part K S j a).1 ha
    have c:b=(j:Int):=by
     cases e:K[j]? with
     | none=>rw[e]at hb;cases hb
     | some v=>
      rw[e]at hb
      dsimp only at hb
      split at hb
      · simpa using hb
      · cases hb
    omega
theorem vg (part:Key->Int) (K:List Key) (S:List Int):∀j:Nat,(plK part K S j).length<=j
 | 0=>Nat.le_refl _
 | j+1=>by
  unfold plK
  have:=vg part K S j
  rw[z5]
  have:(match K[j]? with | some v=>if part v∈S then[(j:Int)] else[] | none=>[]:List Int).length<=1:=by
   cases K[j]? with
   | none=>simp
   | some v=>dsimp only;split <;> simp
  omega
theorem ul (part:Key->Int) (K:List Key) (S:List Int) (j:Nat):St j (plK part K S j):=⟨ve part K S j,λx hx=>by
 obtain⟨i,h1,h2,_⟩:=(oZ part K S j x).1 hx
 omega⟩
end Go.Proofs.YtleekpaohfpooaaGreat
set_option linter.unusedVariables false
set_option linter.unusedSimpArgs false
namespace Go.Proofs.YtleekpaohfpooaaGreat
open Go Go.Wk Go.Proofs
def b01 (b:Bool):Int:=if b then 1 else 0
theorem ma (b:Bool):0<=b01 b/\b01 b<=1:=by cases b <;> decide
def mx (x y:Int):Int:=if x<y then y else x
def monNext (k q:Int) (a b:Bool):Int:=
 if k=1 then mx q (1-b01 a)
 else if k=2 then(if q=2\/(q=1/\b=false) then 2 else b01 a)
 else if k=3 then(if b=true then 0 else mx q (b01 a))
 else if k=4 then b01 a
 else if k=5 then 1-b01 a
 else if k=6 then mx q (b01 a)
 else 2 * b01 a+b01 b
def monStates (k:Int):Nat:=if k=2 then 3 else if k=7 then 4 else 2
def monPair (k:Int):Pair:=
 if k=1\/k=5 then⟨[1],[]⟩ else if k=2 then⟨[2],[]⟩ else if k=3 then⟨[1],[0]⟩ else if k=4 then⟨[0,1],[1]⟩ else if k=6 then⟨[0],[]⟩ else⟨[2,3],[1,3]⟩
def numsN (n:Nat):List Int:=(List.range n).map (λi:Nat=>(i:Int))
theorem lN (n:Nat):numsN (n+1)=numsN n++[(n:Int)]:=by simp[numsN,List.range_succ]
theorem g7 (n:Nat):(numsN n).length=n:=by simp[numsN]
def monRow (c:Clause) (n:Nat) (q:Int):List Int:=(numsN n).map λx=>monNext c.Kind q (decide (x∈c.A)) (decide (x∈c.B))
def monD (c:Clause) (n:Nat):Det:=⟨(numsN (monStates c.Kind)).map (monRow c n),[monPair c.Kind]⟩
theorem kinds {k:Int}(h1:1<=k) (h2:k<=7):k=1\/k=2\/k=3\/k=4\/k=5\/k=6\/k=7:=by omega
theorem pL {k q:Int}(h1:1<=k) (h2:k<=7) (c:0<=q) (d:q<monStates k) (a b:Bool):0<=monNext k q a b/\monNext k q a b<monStates k:=by
 rcases kinds h1 h2 with h | h | h | h | h | h | h <;> subst h <;> cases a <;> cases b <;> simp only[monNext,monStates,mx,b01]at * <;> simp at * <;> (repeat' split) <;> omega
section
variable {p:Sig}(hs:sigOk p=true){c:Clause}(hb:Clause.bd c) (hc:cH p c=true)
include hs hc
omit hs in
theorem jM:1<=c.Kind/\c.Kind<=7:=by
 unfold cH at hc
 simp only[sh,decide_eq_true_eq]at hc
 exact⟨hc.1.1.1.1,hc.1.1.1.2⟩
omit hs in
theorem vX {q:Int}(n:0<=q) (o:q<=10) (x:Int):lh c q x=some (monNext c.Kind q (decide (x∈c.A)) (decide (x∈c.B))):=by
 obtain⟨k1,k⟩:=jM hc
 unfold lh
 rw[p5,bI,p5]
 have hf:∀b:Bool,iF b=some (b01 b):=λb=>by unfold iF;cases b <;> rfl
 have d:∀x y:Int,jN x y=some (mx x y):=λx y=>by
  unfold jN mx
  by_cases h:y<x
  · rw[decide_eq_true h,if_neg (by omega)];rfl
  · rw[decide_eq_false h]
    by_cases g:x<y
    · rw[if_pos g];rfl
    · rw[if_neg g]
      have:x=y:=by omega
      subst this;rfl
 rw[hf,bI,bI,hf,bI]
 generalize decide (x∈c.A)=a
 generalize decide (x∈c.B)=b
 have w1:IntKind.i64.wrap (1-b01 a)=1-b01 a:=by have:=ma a;exact wr' (by omega) (by omega)
 have l:IntKind.i64.wrap (2 * b01 a)=2 * b01 a:=by have:=ma a;exact wr' (by omega) (by omega)
 have m:IntKind.i64.wrap (2 * b01 a+b01 b)=2 * b01 a+b01 b:=by have:=ma a;have:=ma b;exact wr' (by omega) (by omega)
 rw[w1,l,m]
 rcases kinds k1 k with h | h | h | h | h | h | h <;> rw[h] <;> unfold monNext
 · simp[d]
 · by_cases f:q=2
   · subst f;simp
   · by_cases e:q=1
     · subst e;cases b <;> simp[b01]
     · have i:(q==2)=false:=by simpa using f
       have j:(q==1)=false:=by simpa using e
       simp[i,j,f,e]
 · cases b <;> simp[b01,d]
 · simp
 · simp
 · simp[d]
 · simp
omit hs in
theorem vE {q:Int}(l:0<=q) (m:q<=10) (a b:Bool):gj c.Kind q a b=some (monNext c.Kind q a b):=by
 obtain⟨k1,i⟩:=jM hc
 unfold gj
 have d:(bif a then some (1:Int) else some 0)=some (b01 a):=by cases a <;> rfl
 have e:(bif b then some (true,(1:Int)) else some (false,(0:Int)))=some (b,b01 b):=by cases b <;> rfl
 rw[d,e,bI,bI]
 dsimp only
 have w1:IntKind.i64.wrap (1-b01 a)=1-b01 a:=by have:=ma a;exact wr' (by omega) (by omega)
 have j:IntKind.i64.wrap (2 * b01 a)=2 * b01 a:=by have:=ma a;exact wr' (by omega) (by omega)
 have k:IntKind.i64.wrap (2 * b01 a+b01 b)=2 * b01 a+b01 b:=by have:=ma a;have:=ma b;exact wr' (by omega) (by omega)
 rw[w1,j,k]
 rcases kinds k1 i with h | h | h | h | h | h | h <;> rw[h] <;> unfold monNext mx
 · simp
 · by_cases g:q=2
   · subst g;simp
   · by_cases f:q=1
     · subst f;cases b <;> simp[b01]
     · have d:(q==2)=false:=by simpa using g
       have e:(q==1)=false:=by simpa using f
       simp[d,e,g,f]
 · cases b <;> simp[b01]
 · simp
 · simp
 · simp
 · simp
include hb
theorem vW {n:Nat}(hn:ltr p=n):ju p c=some (monD c n):=by
 obtain⟨k1,k⟩:=jM hc
 obtain⟨z,A⟩:=om hs
 have t:jA c.Kind=some ((monStates c.Kind:Nat):Int):=by
  unfold jA monStates
  rcases kinds k1 k with h | h | h | h | h | h | h <;> rw[h] <;> rfl
 have r:lj c.Kind=some (monPair c.Kind):=by
  unfold lj monPair
  rcases kinds k1 k with h | h | h | h | h | h | h <;> rw[h] <;> rfl
 have y:monStates c.Kind<=4:=by unfold monStates;(repeat' split) <;> omega
 unfold ju
 rw[m0 hs hb,hc,bI,zZ,cond_false,r,bI]
 obtain⟨o,w1,d⟩:=cC (f:=fG p c) (λj (s:Int×List (List Int))=>s.1=(j:Int)/\j<=monStates c.Kind/\s.2=(numsN j).map (monRow c n)) (λ_=>False) (λs=>s.2=(numsN (monStates c.Kind)).map (monRow c n)) (monStates c.Kind) (λj s ⟨a1,a2,a⟩=>by
  obtain⟨q,xs⟩:=s
  dsimp only at a1 a
  subst a1
  unfold fG
  dsimp only
  rw[t,bI]
  by_cases m:j<monStates c.Kind
  · obtain⟨u,v,b⟩:=cC (f:=fH p c ((j:Int),xs)) (λi (s:List Int×Int)=>s.2=(i:Int)/\i<=n/\s.1=(numsN i).map λx=>monNext c.Kind (j:Int) (decide (x∈c.A)) (decide (x∈c.B))) (λ_=>False) (λs=>s.1=monRow c n (j:Int)) n (λi s ⟨g,w,e⟩=>by
     obtain⟨ys,x⟩:=s
     dsimp only at g e
     subst g
     unfold fH
     dsimp only
     rw[iz hs,bI,hn]
     by_cases l:i<n
     · rw[decide_eq_true (show(i:Int)<(n:Int) by omega),cond_true,vX hc (by omega) (by omega),bI,app1 (by rw[e,Ah,g7];omega) rfl,bI]
       refine⟨_,rfl,l,by dsimp only;rw[wr' (by omega) (by omega)];omega,by omega,?_⟩
       dsimp only
       rw[e,lN,List.map_append];rfl
     · have:i=n:=by omega
       subst this
       rw[decide_eq_false (Int.lt_irrefl _),cond_false]
       exact⟨_,rfl,e⟩) (2 ^ 64) 0 ([],0) (by omega) ⟨rfl,Nat.zero_le _,rfl⟩ (by omega)
    match u,b with
    | .inr s,b=>
     have b:s.1=monRow c n (j:Int):=b
     rw[decide_eq_true (show(j:Int)<((monStates c.Kind:Nat):Int) by omega),cond_true,v,bI,bV,app1 (by rw[a,Ah,g7];omega) rfl,bI]
     refine⟨_,rfl,m,by dsimp only;rw[wr' (by omega) (by omega)];omega,by omega,?_⟩
     dsimp only
     rw[a,b,lN,List.map_append];rfl
  · have:j=monStates c.Kind:=by omega
    rw[this]at a ⊢
    rw[decide_eq_false (Int.lt_irrefl _),cond_false]
    exact⟨_,rfl,a⟩) (2 ^ 64) 0 (0,[]) (by omega) ⟨rfl,Nat.zero_le _,rfl⟩ (by omega)
 match o,d with
 | .inr s,d=>
  have d:s.2=(numsN (monStates c.Kind)).map (monRow c n):=d
  rw[w1,bI,bV,d];rfl
omit hb in
theorem vD {n:Nat}(hn:ltr p=n):jp p c=some (monD c n):=by
 obtain⟨k1,k⟩:=jM hc
 obtain⟨t,u⟩:=om hs
 have o:monStates c.Kind<=4:=by unfold monStates;(repeat' split) <;> omega
 have j:∀q:Nat,q<=10->cntM (eh c (q:Int)) n 0 []=some (.inr (monRow c n (q:Int))):=λq r=>by
  obtain⟨s,h1,h2⟩:=cv (f:=eh c (q:Int)) (λi s=>s=(numsN i).map λx=>monNext c.Kind (q:Int) (decide (x∈c.A)) (decide (x∈c.B))) n (s:=[]) rfl (λi s g b=>by
   subst b
   have d:∀l:List Int,cc l (i:Int)=some (decide ((i:Int)∈l)):=λl=>by
    rw[cL]
    congr 1
    rw[Ab,List.any_eq_true,decide_eq_true_eq]
    exact⟨λ⟨y,hy,e⟩=>(show(i:Int)=y by simpa using e) ▸ hy,λh=>⟨_,h,by simp⟩⟩
   unfold eh
   rw[d,d,bI,bI,vE hc (by omega) (by omega),bI,app1 (by rw[Ah,g7];omega) rfl,bI]
   exact⟨_,rfl,by rw[lN,List.map_append];rfl⟩)
  rw[h1,h2];rfl
 have a:∀m:Nat,m<=4->cntM (ef p c) m 0 []=some (.inr ((numsN m).map (monRow c n))):=λm hm=>by
  obtain⟨s,h1,h2⟩:=cv (f:=ef p c) (λi s=>s=(numsN i).map (monRow c n)) m (s:=[]) rfl (λi s g b=>by
   subst b
   have hr:rng (n:Int)=some ():=by unfold rng;rw[if_pos (by omega)]
   unfold ef
   rw[j6 hs,bI,hn,hr,bI,Int.sub_zero,z7,j i (by omega),bI,bV,app1 (by rw[Ah,g7];omega) rfl,bI]
   exact⟨_,rfl,by rw[lN,List.map_append];rfl⟩)
  rw[h1,h2]
 unfold jp monD monPair monStates
 rcases kinds k1 k with h | h | h | h | h | h | h <;> rw[h]
 · have:=a 2 (by omega)
   simp[rng,this,bV]
 · have:=a 3 (by omega)
   simp[rng,this,bV]
 · have:=a 2 (by omega)
   simp[rng,this,bV]
 · have:=a 2 (by omega)
   simp[rng,this,bV]
 · have:=a 2 (by omega)
   simp[rng,this,bV]
 · have:=a 2 (by omega)
   simp[rng,this,bV]
 · have:=a 4 (by omega)
   simp[rng,this,bV]
omit hs hb in
theorem xX {n:Nat}(hn:ltr p=n):detOk p (monD c n)=true/\(monD c n).Pairs.length=1:=by
 obtain⟨k1,a⟩:=jM hc
 have hl:(monD c n).Next.length=monStates c.Kind:=by
  show((numsN _).map _).length=_
  rw[Ah,g7]
 refine⟨?_,rfl⟩
 unfold detOk
 rw[hl]
 have f:1<=monStates c.Kind/\monStates c.Kind<=4:=by unfold monStates;(repeat' split) <;> omega
 have hp:pairsOk (monD c n).Pairs (monStates c.Kind:Int)=true:=by
  show pairsOk [monPair c.Kind] _=true
  unfold monPair monStates
  rcases kinds k1 a with h | h | h | h | h | h | h <;> rw[h] <;> decide
 have hr:((monD c n).Next.all (detRow p (monStates c.Kind:Int)))=true:=by
  rw[List.all_eq_true]
  intro row e
  obtain⟨q,d,rfl⟩:=List.mem_map.1 (show row∈(numsN (monStates c.Kind)).map (monRow c n) from e)
  obtain⟨i,b,rfl⟩:=List.mem_map.1 d
  rw[List.mem_range]at b
  unfold detRow monRow
  rw[Ah,g7,sh,List.all_eq_true]
  refine⟨by rw[beq_iff_eq];unfold ltd;unfold ltr at hn;exact hn.symm,λx hx=>?_⟩
  obtain⟨y,_,rfl⟩:=List.mem_map.1 hx
  exact fg.2 (pL k1 a (by omega) (by omega) _ _)
 rw[hp,hr,decide_eq_true (by omega),decide_eq_true (by omega)];rfl
end
end Go.Proofs.YtleekpaohfpooaaGreat
set_option linter.unusedVariables false
set_option linter.unusedSimpArgs false
namespace Go.Proofs.YtleekpaohfpooaaGreat
open Go Go.Wk Go.Proofs
def kyJ (a b:Det) (v:Key) (x:Int):Key:=(tab a.Next v.1 x,tab b.Next v.2 x)
def toL (v:Key):List Int:=[v.1,v.2]
def plP (part:Key->Int) (K:List Key) (p:Pair):Pair:=⟨plK part K p.Ask K.length,plK part K p.Give K.length⟩
def jD (a b:Det) (K:List Key) (R:List (List Int)):Det:=⟨R,a.Pairs.map (plP (·.1) K)++b.Pairs.map (plP (·.2) K)⟩
def zeroD:Det:=⟨[],[]⟩
def locI (K:List Key) (k:Key):Int:=match loc K k with | some i=>(i:Int) | none=> -1
theorem vr {α:Type}{F:List Key->Int->Option α}{K:List Key}{k:Key}{app:Option (List Key)}(ha:app=some (K++[k])):
 (bH (bif decide (locI K k<0) then bH app λx=>some (x,(K.length:Int)) else some (K,locI K k)) λq=>F q.1 q.2)=F (addK K k) (atK K k):=by
 unfold locI addK atK
 cases h:loc K k with
 | none=>
  dsimp only
  rw[decide_eq_true (by omega),cond_true,ha];rfl
 | some i=>
  dsimp only
  rw[decide_eq_false (by omega),cond_false];rfl
theorem wW {K:List Key}(hl:K.length<=1000) (k:Key):km (K.map toL) k.1 k.2=some (locI K k):=by
 unfold km
 rw[gU (f:=gA (K.map toL) k.1 k.2) (λl=>l==toL k) (λi=>(i:Int)) (xs:=K.map toL) (λi l hl=>by
  rw[List.getElem?_map]at hl
  obtain⟨v,b,rfl⟩:=Option.map_eq_some_iff.1 hl
  unfold gA
  rw[bS,List.getElem?_map,b]
  show bH (some (toL v)) _=_
  rw[bI]
  show bH (some v.1) _=_
  rw[bI]
  have e:(toL v==toL k)=(v.1==k.1&&v.2==k.2):=by
   rw[Ab]
   simp[toL]
  rw[e]
  cases h1:v.1==k.1 with
  | false=>rfl
  | true=>
   rw[cond_true]
   show bH (bH (some (toL v)) λc=>bH (idx c 1) λa=>some (a==k.2)) _=_
   rw[bI]
   show bH (bH (some v.2) λa=>some (a==k.2)) _=_
   rw[bI,bI]
   cases v.2==k.2 <;> rfl),bI]
 unfold locI loc
 have hf:(K.map toL).findIdx? (λl=>l==toL k)=K.findIdx? (λx=>k==x):=by
  rw[List.findIdx?_map]
  congr 1
  funext v
  rw[Ab]
  simp only[Function.comp_apply,beq_iff_eq,toL,List.cons.injEq,and_true]
  exact⟨λ⟨h1,h2⟩=>Prod.ext h1.symm h2.symm,λh=>by rw[h];exact⟨rfl,rfl⟩⟩
 rw[hf]
 cases K.findIdx? (λx=>k==x) <;> rfl
theorem wA {K:List Key}(k:Key):cI K k=some (locI K k):=by
 unfold cI
 rw[gU (f:=cG K k) (λx=>k==x) (λi=>(i:Int)) (xs:=K) (λi x hx=>by
  unfold cG
  rw[bS,hx,bI]
  have e:(k.1==x.1&&k.2==x.2)=(k==x):=by
   rw[Ab]
   simp only[sh,beq_iff_eq]
   exact⟨λ⟨h1,h2⟩=>Prod.ext h1 h2,λh=>by rw[h];exact⟨rfl,rfl⟩⟩
  first
   | rw[e]
   | skip
  cases k==x <;> rfl),bI]
 unfold locI loc
 cases K.findIdx? (λx=>k==x) <;> rfl
section
variable {p:Sig}{a b:Det}(ha:detOk p a=true) (hb:detOk p b=true){k:Nat}(hk:ltd p=k)
include ha hb hk
theorem uc {v:Key}(p:0<=v.1) (q:v.1<a.Next.length) (t:0<=v.2) (u:v.2<b.Next.length){x:Nat}(hx:x<k):
 ∃r s,idx a.Next v.1=some r/\idx r (x:Int)=some (kyJ a b v x).1/\idx b.Next v.2=some s/\idx s (x:Int)=some (kyJ a b v x).2/\0<=(kyJ a b v x).1/\(kyJ a b v x).1<a.Next.length/\0<=(kyJ a b v x).2/\(kyJ a b v x).2<b.Next.length:=by
 obtain⟨_,_,_,c⟩:=dc ha
 obtain⟨_,_,_,d⟩:=dc hb
 obtain⟨r,e,f,g,j⟩:=jK c p q (i:=(x:Int)) (by omega) (by omega)
 obtain⟨s,l,m,n,o⟩:=jK d t u (i:=(x:Int)) (by omega) (by omega)
 exact⟨r,s,e,f,l,m,g,j,n,o⟩
def KinJ (a b:Det) (K:List Key):Prop:=∀v∈K,0<=v.1/\v.1<a.Next.length/\0<=v.2/\v.2<b.Next.length
theorem yq {K:List Key}(hK:KinJ a b K){v:Key}(d:v∈K):KinJ a b (rowK (kyJ a b v) K k).1:=λu c=>by
 obtain⟨f,g,j,l⟩:=hK v d
 rcases(lO (kyJ a b v) K k).mem u c with h | ⟨i,hi,e⟩
 · exact hK u h
 · subst e
   obtain⟨_,_,_,_,_,_,h⟩:=uc ha hb hk f g j l hi
   exact h
theorem yW {K:List Key}(hl:K.length<=48) (A:k<=16) (hK:KinJ a b K){i:Nat}{v:Key}(d:K[i]? =some v){R:List (List Int)}{row:List Int}(hr:idx a.Next v.1=some row) (hrl:row.length=k):
 cntM (ee b (K,(i:Int),R) row) k 0 (K,[])=some (.inr (rowK (kyJ a b v) K k)):=by
 obtain⟨q,t,u,w⟩:=hK v (bQ d)
 obtain⟨s,h1,h2,_⟩:=cv (f:=ee b (K,(i:Int),R) row) (λj s=>s=rowK (kyJ a b v) K j/\j<=k) k (s:=(K,[])) ⟨rfl,Nat.zero_le _⟩ (λj s hj ⟨e,_⟩=>by
  subst e
  obtain⟨r,s,g,n,o,p,_⟩:=uc ha hb hk q t u w hj
  rw[hr]at g
  cases g
  have c:=lO (kyJ a b v) K j
  have B:=c.le
  have C:=c.rl
  refine⟨rowK (kyJ a b v) K (j+1),?_,rfl,hj⟩
  unfold ee
  dsimp only
  rw[n,bI,bS,c.pre i v d,bI,o,bI,p,bI]
  have l:=wA (K:=(rowK (kyJ a b v) K j).1) (kyJ a b v j)
  rw[show((kyJ a b v j).1,(kyJ a b v j).2)=kyJ a b v j from rfl,l,bI]
  have m:=vr (K:=(rowK (kyJ a b v) K j).1) (k:=kyJ a b v j) (F:=λx y=>bH (appS 8 (rowK (kyJ a b v) K j).2 [y]) λz=>(some (.inr (.inr (x,z))):Option ((Det×Bool)⊕((List Key×List Int)⊕(List Key×List Int))))) (app:=appS 16 (rowK (kyJ a b v) K j).1 [kyJ a b v j]) (app1 (by omega) rfl)
  refine Eq.trans m ?_
  show bH (appS 8 (rowK (kyJ a b v) K j).2 [_]) _=_
  rw[app1 (by omega) rfl,bI]
  rfl)
 rw[h1,h2]
theorem zC {K:List Key}(hl:K.length<=48) (D:k<=16) (hK:KinJ a b K){i:Nat}{v:Key}(g:K[i]? =some v){M:List (List Int)}{R:List (List Int)}:
 cntM (er a b (M,(i:Int),R)) k 0 (K.map toL,[])=some (.inr ((rowK (kyJ a b v) K k).1.map toL,(rowK (kyJ a b v) K k).2)):=by
 obtain⟨w,z,A,B⟩:=hK v (bQ g)
 obtain⟨s,h1,h2,_⟩:=cv (f:=er a b (M,(i:Int),R)) (λj s=>s=((rowK (kyJ a b v) K j).1.map toL,(rowK (kyJ a b v) K j).2)/\j<=k) k (s:=(K.map toL,[])) ⟨rfl,Nat.zero_le _⟩ (λj s hj ⟨e,_⟩=>by
  subst e
  obtain⟨r,s,p,q,t,u,_⟩:=uc ha hb hk w z A B hj
  have d:=lO (kyJ a b v) K j
  have E:=d.le
  have G:=d.rl
  refine⟨((rowK (kyJ a b v) K (j+1)).1.map toL,(rowK (kyJ a b v) K (j+1)).2),?_,rfl,hj⟩
  unfold er
  dsimp only
  have m:idx ((rowK (kyJ a b v) K j).1.map toL) (i:Int)=some (toL v):=by
   rw[bS,List.getElem?_map,d.pre i v g];rfl
  have n:idx (toL v) 0=some v.1:=rfl
  have o:idx (toL v) 1=some v.2:=rfl
  rw[m,bI,n,bI,p,bI,q,bI,bI,o,bI,t,bI,u,bI,wW (by omega),bI]
  have c:=vr (K:=(rowK (kyJ a b v) K j).1) (k:=kyJ a b v j) (F:=λx y=>bH (appS 8 (rowK (kyJ a b v) K j).2 [y]) λC=>(some (.inr (.inr (x.map toL,C))):Option ((Det×Bool)⊕(((List (List Int))×List Int)⊕((List (List Int))×List Int))))) (app:=some ((rowK (kyJ a b v) K j).1++[kyJ a b v j])) rfl
  rw[app1 (by omega) rfl]at c
  have l:appS 24 ((rowK (kyJ a b v) K j).1.map toL) [[(kyJ a b v j).1,(kyJ a b v j).2]]=some (((rowK (kyJ a b v) K j).1++[kyJ a b v j]).map toL):=by
   rw[app1 (by rw[Ah];omega) rfl,List.map_append];rfl
  rw[l,Ah]
  rw[bI]at c
  cases hd:decide (locI (rowK (kyJ a b v) K j).1 (kyJ a b v j)<0) with
  | true=>
   rw[hd]at c
   simp only[cond_true,bI]at c ⊢
   exact c
  | false=>
   rw[hd]at c
   simp only[cond_false,bI]at c ⊢
   exact c)
 rw[h1,h2]
end
end Go.Proofs.YtleekpaohfpooaaGreat
set_option linter.unusedVariables false
set_option linter.unusedSimpArgs false
namespace Go.Proofs.YtleekpaohfpooaaGreat
open Go Go.Wk Go.Proofs
theorem conI (l:List Int) (v:Int):cc l v=some (decide (v∈l)):=by
 rw[cL]
 congr 1
 rw[Ab,List.any_eq_true,decide_eq_true_eq]
 exact⟨λ⟨y,hy,e⟩=>(show v=y by simpa using e) ▸ hy,λh=>⟨_,h,by simp⟩⟩
theorem nT {part:Key->Int}{K:List Key}{S:List Int}{j:Nat}{v:Key}(a:K[j]? =some v) (hl:j<=1000):(bif decide (part v∈S) then bH (appS 8 (plK part K S j) [(j:Int)]) λx=>some x else some (plK part K S j))=some (plK part K S (j+1)):=by
 have hp:=vg part K S j
 have e:plK part K S (j+1)=plK part K S j++(match K[j]? with | some v=>if part v∈S then[(j:Int)] else[] | none=>[]):=rfl
 rw[e,a]
 dsimp only
 by_cases h:part v∈S
 · rw[decide_eq_true h,cond_true,app1 (by omega) rfl,if_pos h];rfl
 · rw[decide_eq_false h,cond_false,if_neg h,List.append_nil]
theorem tE {K:List Key}(hl:K.length<=300) (ps:List Pair) (l:ps.length<=4) (w:Bool):jd ps (K.map toL) (b01 w)=some (ps.map (plP (λv=>bif w then v.2 else v.1) K)):=by
 unfold jd
 obtain⟨s,h1,h2⟩:=cv (f:=gx ps (K.map toL) (b01 w)) (λj s=>s=(ps.take j).map (plP (λv=>bif w then v.2 else v.1) K)) ps.length (s:=[]) rfl (λj s hj hs=>by
  subst hs
  have hp:ps[j]? =some ps[j]:=bJ hj
  generalize ps[j]=p at hp
  obtain⟨t,k1,d⟩:=cv (f:=gz ps (K.map toL) (b01 w) (j:Int)) (λi s=>s=(plK (λv=>bif w then v.2 else v.1) K p.Ask i,plK (λv=>bif w then v.2 else v.1) K p.Give i)) (K.map toL).length (s:=([],[])) rfl (λi s c hs=>by
   subst hs
   rw[Ah]at c
   have a:K[i]? =some K[i]:=bJ c
   generalize K[i]=v at a
   have k:idx (K.map toL) (i:Int)=some (toL v):=by rw[bS,List.getElem?_map,a];rfl
   have b:idx (toL v) (b01 w)=some (bif w then v.2 else v.1):=by cases w <;> rfl
   have e:=nT (part:=λv=>bif w then v.2 else v.1) (S:=p.Ask) a (by omega)
   have g:=nT (part:=λv=>bif w then v.2 else v.1) (S:=p.Give) a (by omega)
   unfold gz
   dsimp only at e g ⊢
   rw[bS,hp,bI,k,bI,b,bI,p5,bI,e,bI,bI,bI,b,bI,p5,bI,g,bI]
   exact⟨_,rfl,rfl⟩)
  rw[Ah]at d
  unfold gx
  rw[k1,bI,bV,d]
  dsimp only
  rw[app1 (by rw[Ah,z9];omega) rfl,bI]
  exact⟨_,rfl,by rw[Ae,hp,List.map_append];rfl⟩)
 rw[h1,bI,bV,h2,List.take_length]
theorem sO {K:List Key}(hl:K.length<=300){ii:Int}{R:List (List Int)}(a b:Det) (w:Bool) (ps:List Pair) (c:List Pair) (o:c.length+ps.length<=8) (X:Det) (l:X.Pairs=ps):cntM (dm (K,ii,R) (b01 w) X) ps.length 0 c=some (.inr (c++ps.map (plP (λv=>bif w then v.2 else v.1) K))):=by
 obtain⟨s,h1,h2⟩:=cv (f:=dm (K,ii,R) (b01 w) X) (λj s=>s=c++(ps.take j).map (plP (λv=>bif w then v.2 else v.1) K)) ps.length (s:=c) (by simp) (λj s hj hs=>by
  subst hs
  have hp:ps[j]? =some ps[j]:=bJ hj
  generalize ps[j]=p at hp
  obtain⟨t,k1,n⟩:=cv (f:=fl (K,ii,R) (b01 w) p) (λi s=>s=(plK (λv=>bif w then v.2 else v.1) K p.Ask i,plK (λv=>bif w then v.2 else v.1) K p.Give i)) K.length (s:=([],[])) rfl (λi s m hs=>by
   subst hs
   have d:K[i]? =some K[i]:=bJ m
   generalize K[i]=v at d
   have k:idx [v.1,v.2] (b01 w)=some (bif w then v.2 else v.1):=by cases w <;> rfl
   have e:=nT (part:=λv=>bif w then v.2 else v.1) (S:=p.Ask) d (by omega)
   have g:=nT (part:=λv=>bif w then v.2 else v.1) (S:=p.Give) d (by omega)
   unfold fl
   dsimp only at e g ⊢
   rw[bS,d,bI,k,bI,conI,bI,e,bI,bI,conI,bI,g,bI]
   exact⟨_,rfl,rfl⟩)
  unfold dm
  dsimp only
  rw[l,bS,hp,bI,k1,bI,bV,n]
  dsimp only
  rw[app1 (by rw[z5,Ah,z9];omega) rfl,bI]
  exact⟨_,rfl,by rw[Ae,hp,List.map_append,List.append_assoc];rfl⟩)
 rw[h1,h2,List.take_length]
section
variable {p:Sig}{a b:Det}(hs:sigOk p=true) (ha:detOk p a=true) (hb:detOk p b=true) (hsum:a.Pairs.length+b.Pairs.length<=4){k:Nat}(hk:ltd p=k)
include hs ha hb hsum hk
structure JK (a b:Det) (k:Nat) (K:List Key) (R:List (List Int)):Prop where
 prod:Prod (kyJ a b) k K K.length R
 kin:KinJ a b K
 le:K.length<=48
theorem sS:(eG a b (k:Int)=some (zeroD,false)/\gX a b=some (zeroD,false)/\48<a.Next.length * b.Next.length)\/∃K R,JK a b k K R/\eG a b (k:Int)=some (jD a b K R,true)/\gX a b=some (jD a b K R,true):=by
 obtain⟨a1,a2,P,D⟩:=dc ha
 obtain⟨Q,S,T,V⟩:=dc hb
 have m:k<=16:=by have:=om hs;unfold ltr at this;unfold ltd at hk;omega
 have hr:rng (k:Int)=some ():=by unfold rng;rw[if_pos (by omega)]
 obtain⟨o,t,w1,O,l⟩:=mX (f:=fO a b (k:Int)) (g:=fk a b) (λs t=>∃K i R,s=(K.map toL,((i:Nat):Int),R)/\t=(K,((i:Nat):Int),R)/\Prod (kyJ a b) k K i R/\KinJ a b K/\K.length<=48) (λs=>100-s.2.1.toNat) (λr r'=>r=(zeroD,false)/\r'=(zeroD,false)/\48<a.Next.length * b.Next.length) (λs t=>∃K i R,s=(K.map toL,((i:Nat):Int),R)/\t=(K,((i:Nat):Int),R)/\Prod (kyJ a b) k K i R/\KinJ a b K/\K.length<=48/\i=K.length) (λs t ⟨K,i,R,e,j,d,hK,hl⟩=>by
  subst e j
  unfold fO fk
  dsimp only
  rw[Ah]
  by_cases A:i<K.length
  · have c:K[i]? =some K[i]:=bJ A
    generalize K[i]=v at c
    obtain⟨L,N,W,X⟩:=hK v (bQ c)
    obtain⟨row,q,B⟩:=gK (xs:=a.Next) L N
    have hrl:row.length=k:=by have:=(D row B).1;omega
    have e:=zC ha hb hk hl m hK c (M:=K.map toL) (R:=R)
    have j:=yW ha hb hk hl m hK c (R:=R) q hrl
    have J:=lO (kyJ a b v) K k
    have n:=yq ha hb hk hK (bQ c)
    have p:=d.step c
    generalize rowK (kyJ a b v) K k=G at *
    have hle:=J.le
    have U:=d.rl
    rw[decide_eq_true (show(i:Int)<(K.length:Int) by omega),cond_true,cond_true,hr,bI,Int.sub_zero,z7,e,bI,bV,bS,c,bI,q,bI,hrl,j,bI,bV]
    dsimp only
    rw[Ah]
    by_cases z:48<G.1.length
    · rw[decide_eq_true (show(48:Int)<(G.1.length:Int) by omega),cond_true,cond_true]
      exact⟨_,_,rfl,rfl,rfl,rfl,Nat.lt_of_lt_of_le z (pB p.nod n)⟩
    · rw[decide_eq_false (show ¬(48:Int)<(G.1.length:Int) by omega),cond_false,cond_false,app1 (by omega) rfl,bI,bI,wr' (by omega) (by omega)]
      refine⟨_,_,rfl,rfl,⟨G.1,i+1,R++[G.2],rfl,rfl,p,n,by omega⟩,?_⟩
      dsimp only;omega
  · rw[decide_eq_false (show ¬(i:Int)<(K.length:Int) by omega),cond_false,cond_false]
    have:=d.il
    exact⟨_,_,rfl,rfl,K,i,R,rfl,rfl,d,hK,hl,by omega⟩) (2 ^ 64) (2 ^ 64) ([[0,0]],0,[]) ([(0,0)],0,[]) (by dsimp only;omega) (by dsimp only;omega) ⟨[(0,0)],0,[],rfl,rfl,Prod.init _ _,λv c=>by
     rw[z6]at c
     subst c
     exact⟨Int.le_refl _,by dsimp only;omega,Int.le_refl _,by dsimp only;omega⟩,by simp⟩
 have C:decide ((4:Int)<IntKind.i64.wrap ((a.Pairs.length:Int)+(b.Pairs.length:Int)))=false:=by
  rw[wr' (by omega) (by omega)]
  exact decide_eq_false (by omega)
 unfold eG gX
 rw[C,cond_false,w1,O,bI,bI]
 match o,t,l with
 | .inl r,.inl r',l=>
  left
  rw[l.1,l.2.1]
  exact⟨rfl,rfl,l.2.2⟩
 | .inr s,.inr t,⟨K,i,R,e,j,d,hK,hl,y⟩=>
  right
  subst e j y
  refine⟨K,R,⟨d,hK,hl⟩,?_,?_⟩
  · rw[bV]
    dsimp only
    have u:=tE (K:=K) (by omega) a.Pairs (by omega) false
    have w:=tE (K:=K) (by omega) b.Pairs (by omega) true
    rw[show b01 false=0 from rfl]at u
    rw[show b01 true=1 from rfl]at w
    rw[u,bI,w,bI,appL (by simp;omega) rfl,bI]
    rfl
  · rw[bV]
    have E:=sO (K:=K) (by omega) (ii:=((K.length:Nat):Int)) (R:=R) a b false a.Pairs [] (by simp;omega) a rfl
    have H:=sO (K:=K) (by omega) (ii:=((K.length:Nat):Int)) (R:=R) a b true b.Pairs ([]++a.Pairs.map (plP (λv=>bif false then v.2 else v.1) K)) (by simp;omega) b rfl
    have c1:cS a b (K,((K.length:Nat):Int),R) 0 []=some (.inr (.inr ([]++a.Pairs.map (plP (λv=>bif false then v.2 else v.1) K)))):=by
     unfold cS
     rw[show idx [a,b] 0=some a from rfl,bI]
     have F:cntM (dm (K,((K.length:Nat):Int),R) 0 a) a.Pairs.length 0 []=_:=E
     rw[F,bI,bV]
    have c2:cS a b (K,((K.length:Nat):Int),R) 1 ([]++a.Pairs.map (plP (λv=>bif false then v.2 else v.1) K))=some (.inr (.inr (([]++a.Pairs.map (plP (λv=>bif false then v.2 else v.1) K))++b.Pairs.map (plP (λv=>bif true then v.2 else v.1) K)))):=by
     unfold cS
     rw[show idx [a,b] 1=some b from rfl,bI]
     have I:cntM (dm (K,((K.length:Nat):Int),R) 1 b) b.Pairs.length 0 _=_:=H
     rw[I,bI,bV]
    have x:cntM (cS a b (K,((K.length:Nat):Int),R)) [a,b].length 0 []=some (.inr (([]++a.Pairs.map (plP (λv=>bif false then v.2 else v.1) K))++b.Pairs.map (plP (λv=>bif true then v.2 else v.1) K))):=by
     show bH (cS a b (K,((K.length:Nat):Int),R) 0 []) _=_
     rw[c1,bI]
     show bH (cS a b (K,((K.length:Nat):Int),R) (0+1) _) _=_
     rw[show(0:Int)+1=1 from rfl,c2,bI]
     rfl
    rw[x,bI,bV]
    rfl
end
theorem zL {p:Sig}{a b:Det}(hsum:a.Pairs.length+b.Pairs.length<=4){k:Nat}(hk:ltd p=k){K:List Key}{R:List (List Int)}(h:JK a b k K R):detOk p (jD a b K R)=true:=by
 have hl:=h.le
 have h0:=(bK.1 h.prod.zero).1
 have m:(jD a b K R).Next.length=K.length:=h.prod.rl
 unfold detOk
 rw[m,decide_eq_true (show(1:Int)<=(K.length:Int) by omega),decide_eq_true (show(K.length:Int)<=48 by omega)]
 have g:pairsOk (jD a b K R).Pairs (K.length:Int)=true:=by
  unfold pairsOk
  rw[sh,decide_eq_true_eq,List.all_eq_true]
  refine⟨?_,λx hx=>?_⟩
  · show(((a.Pairs.map _++b.Pairs.map _).length:Nat):Int)<=4
    rw[z5,Ah,Ah];omega
  · unfold pairOk
    have:∀c:Key->Int,∀y:Pair,x=plP c K y->(da (K.length:Int) x.Ask&&da (K.length:Int) x.Give)=true:=λc y e=>by
     subst e
     show(da _ (plK c K y.Ask K.length)&&da _ (plK c K y.Give K.length))=true
     rw[(ul c K y.Ask K.length).ok (Int.le_refl _),(ul c K y.Give K.length).ok (Int.le_refl _)];rfl
    rcases Ad.1 (show x∈a.Pairs.map (plP (·.1) K)++b.Pairs.map (plP (·.2) K) from hx) with hx | hx
    · obtain⟨y,_,e⟩:=List.mem_map.1 hx;exact this _ y e.symm
    · obtain⟨y,_,e⟩:=List.mem_map.1 hx;exact this _ y e.symm
 have l:((jD a b K R).Next.all (detRow p (K.length:Int)))=true:=by
  rw[List.all_eq_true]
  intro row n
  obtain⟨j,hj⟩:=List.getElem?_of_mem (show row∈R from n)
  obtain⟨s,v,t,o⟩:=h.prod.row j row hj
  unfold detRow
  rw[sh,List.all_eq_true,beq_iff_eq]
  refine⟨by omega,λx hx=>fg.2 ?_⟩
  obtain⟨i,d⟩:=List.getElem?_of_mem hx
  have r:=(bK.1 d).1
  obtain⟨y,f,u,q⟩:=o i (by omega)
  rw[d]at f
  cases f
  have:=(bK.1 q).1
  omega
 rw[g,l];rfl
end Go.Proofs.YtleekpaohfpooaaGreat
set_option linter.unusedVariables false
set_option linter.unusedSimpArgs false
namespace Go.Proofs.YtleekpaohfpooaaGreat
open Go Go.Wk Go.Proofs
def oneD (n:Nat):Det:=⟨[bO n 0],[]⟩
inductive PR (n:Nat):List Clause->Det->Prop
 | nil:PR n [] (oneD n)
 | snoc {cs c D K R} (h:PR n cs D) (k:JK D (monD c n) n K R):PR n (cs++[c]) (jD D (monD c n) K R)
theorem wP (c:Clause) (n:Nat):(monD c n).Next.length<=4:=by
 show((numsN _).map _).length<=4
 rw[Ah,g7]
 unfold monStates
 (repeat' split) <;> omega
theorem PR.size {n:Nat}{cs:List Clause}{D:Det}(h:PR n cs D):D.Next.length<=4 ^ cs.length:=by
 induction h with
 | nil=>exact Nat.le_refl _
 | @snoc cs c D K R hp k a=>
  show R.length<=_
  rw[k.prod.rl,z5]
  exact Nat.le_trans (pB k.prod.nod k.kin) (by show _<=4 ^ (cs.length+1);rw[Nat.pow_succ];exact Nat.mul_le_mul a (wP c n))
def dJ (p:Sig) (cs:List Clause):Bool:=decide ((cs.length:Int)<=3)&&cs.all (cH p)
theorem yb {p:Sig}(hs:sigOk p=true){n:Nat}(hn:ltd p=n):detOk p (oneD n)=true:=by
 have h:=om hs
 unfold ltr at h
 unfold ltd at hn
 unfold detOk oneD
 have e:([bO n (0:Int)].all (detRow p ((1:Nat):Int)))=true:=by
  rw[List.all_eq_true]
  intro row a
  rw[z6]at a
  subst a
  unfold detRow ltd
  rw[List.length_replicate,sh,beq_iff_eq,List.all_eq_true]
  refine⟨hn.symm,λx hx=>?_⟩
  rw[(List.mem_replicate.1 hx).2]
  exact fg.2 ⟨Int.le_refl _,by omega⟩
 show(decide ((1:Int)<=((1:Nat):Int))&&decide (((1:Nat):Int)<=48)&&pairsOk [] ((1:Nat):Int)&&([bO n (0:Int)].all (detRow p ((1:Nat):Int))))=true
 rw[e];rfl
theorem nB (p:Sig){cs:List Clause}(hb:∀c∈cs,Clause.bd c):(cU p cs=some (zeroD,false)/\gV p cs=some (zeroD,false)/\(sigOk p=true->dJ p cs=true->2<cs.length)) \/
 (sigOk p=true/\dJ p cs=true/\∃n D,ltd p=((n:Nat):Int)/\n<=16/\PR n cs D/\detOk p D=true/\D.Pairs.length=cs.length/\cU p cs=some (D,true)/\gV p cs=some (D,true)):=by
 unfold cU gV
 rw[lK]
 cases hs:sigOk p with
 | false=>
  left
  have:fx p cs=some false:=by
   unfold fx
   rw[fJ,hs];rfl
  rw[this]
  exact⟨rfl,rfl,λh=>by cases h⟩
 | true=>
  rw[pU hs hb,bI,bI,zZ,cond_false,lZ hs hb,bI,bI]
  show _\/(_/\dJ p cs=true/\_)
  have A:(decide ((cs.length:Int)<=3)&&cs.all (cH p))=dJ p cs:=rfl
  rw[A]
  cases hc:dJ p cs with
  | false=>exact .inl ⟨rfl,rfl,λ_ h=>by cases h⟩
  | true=>
   have b:=hc
   unfold dJ at b
   rw[sh,decide_eq_true_eq,List.all_eq_true]at b
   obtain⟨O,P⟩:=om hs
   obtain⟨n,hn⟩:=cY (z:=ltr p) (by omega)
   have l:ltd p=(n:Int):=hn
   have B:mkS 8 (n:Int) (0:Int)=some (bO n 0):=dD (by omega) rfl
   have C:=yb hs l
   rw[zZ,cond_false,cond_false,iz hs,j6 hs,hn,bI,bI,B,bI,bI]
   obtain⟨o,t,w1,F,d⟩:=sH (f:=eo p cs) (g:=d9 p cs) (λj s t=>s=t/\PR n (cs.take j) ⟨s.1,s.2⟩/\detOk p ⟨s.1,s.2⟩=true/\s.2.length=j) (λr r'=>r=(zeroD,false)/\r'=(zeroD,false)/\2<cs.length) (λ_ _=>False) cs.length (λj s t hj ⟨e,a,hd,hl⟩=>by
    subst e
    have i:cs[j]? =some cs[j]:=bJ hj
    generalize cs[j]=c at i
    have k:=bQ i
    obtain⟨u,w⟩:=xX (b.2 c k) hn
    have hsum:(⟨s.1,s.2⟩:Det).Pairs.length+(monD c n).Pairs.length<=4:=by
     rw[w]
     show s.2.length+1<=4
     omega
    unfold eo d9
    rw[bS,i,bI,bI,vW hs (hb c k) (b.2 c k) hn,vD hs (b.2 c k) hn,bI,bI]
    have y:jt p ⟨s.1,s.2⟩ (monD c n)=eG ⟨s.1,s.2⟩ (monD c n) (n:Int):=by
     have v:∀D:Det,detOk p D=true->∀x∈D.Pairs,x.Ask.length<=1000000000/\x.Give.length<=1000000000:=λD hD x hx=>by
      obtain⟨J,L,_,_⟩:=dc hD
      unfold detOk at hD
      simp only[sh]at hD
      have hp:=hD.1.2
      unfold pairsOk at hp
      rw[sh,List.all_eq_true]at hp
      have:=hp.2 x hx
      unfold pairOk at this
      rw[sh]at this
      have a1:=(St.of this.1).len
      have a2:=(St.of this.2).len
      omega
     unfold jt
     rw[hU hs (v _ hd),hd,bI,zZ,cond_false,hU hs (v _ u),u,bI,zZ,bI,cond_false,wr' (by omega) (by omega),decide_eq_false (by omega),bI,cond_false,iz hs,hn,bI]
     cases eG ⟨s.1,s.2⟩ (monD c n) (n:Int) <;> rfl
    rw[y]
    rcases sS hs hd u hsum l with ⟨m,q,N⟩ | ⟨K,R,hK,m,q⟩
    · rw[m,q]
      refine⟨_,_,rfl,rfl,rfl,rfl,?_⟩
      have H:=a.size
      have I:(monD c n).Next.length<=4:=wP c n
      rw[z9,Nat.min_eq_left (by omega)]at H
      by_cases M:j<2
      · exfalso
        have Q:4 ^ j<=4 ^ 1:=Nat.pow_le_pow_right (by omega) (by omega)
        have S:(⟨s.1,s.2⟩:Det).Next.length * (monD c n).Next.length<=4 * 4:=Nat.mul_le_mul (by omega) I
        omega
      · omega
    · rw[m,q]
      refine⟨_,_,rfl,rfl,rfl,?_,zL hsum l hK,?_⟩
      · rw[Ae,i]
        exact PR.snoc a hK
      · show((s.2.map _++(monD c n).Pairs.map _).length)=_
        rw[z5,Ah,Ah,hl,w]) cs.length 0 ([bO n 0],[]) ([bO n 0],[]) (by omega) ⟨rfl,PR.nil,C,rfl⟩
   have E:cntM (eo p cs) cs.length 0 ([bO n 0],[])=some o:=w1
   have G:cntM (d9 p cs) cs.length 0 ([bO n 0],[])=some t:=F
   rw[E,G,bI,bI]
   match o,t,d with
   | .inl r,.inl r',d=>
    left
    rw[d.1,d.2.1]
    exact⟨rfl,rfl,λ_ _=>d.2.2⟩
   | .inr s,.inr t,.inl ⟨e,a,hd,hl⟩=>
    right
    subst e
    rw[List.take_length]at a
    exact⟨rfl,rfl,n,⟨s.1,s.2⟩,l,by omega,a,hd,hl,rfl,rfl⟩
end Go.Proofs.YtleekpaohfpooaaGreat
set_option linter.unusedVariables false
set_option linter.unusedSimpArgs false
namespace Go.Proofs.YtleekpaohfpooaaGreat.Par
open Classical
structure Gm where
 own:Int->Bool
 pri:Int->Int
 E:Int->Int->Prop
variable (G:Gm)
def oddP (d:Int):Bool:=decide (d % 2=1)
def Play (p:Bool) (D:Int->Prop) (a:Int->Int) (π:Nat->Int):Prop:=∀n,D (π n)/\G.E (π n) (π (n+1))/\(G.own (π n)=p->π (n+1)=a (π n))
def Wins (p:Bool) (π:Nat->Int):Prop:=∃d,oddP d=p/\(∀N,∃n,N<=n/\G.pri (π n)=d)/\∃N,∀n,N<=n->G.pri (π n)<=d
def Dom (X:Int->Prop) (p:Bool) (D:Int->Prop):Prop:=∃a:Int->Int,(∀v,D v->X v)/\(∀v,D v->G.own v=p->G.E v (a v)/\D (a v))/\(∀v u,D v->¬G.own v=p->G.E v u->X u->D u)/\∀π,Play G p D a π->Wins G p π
def NoDead (X:Int->Prop):Prop:=∀v,X v->∃u,G.E v u/\X u
structure IsAttr (X:Int->Prop) (p:Bool) (S A:Int->Prop):Prop where
 sub:∀v,A v->X v
 base:∀v,X v->S v->A v
 rank:∃r:Int->Nat,∀v,A v->S v\/(G.own v=p/\∃u,G.E v u/\A u/\r u<r v)\/(¬G.own v=p/\∀u,G.E v u->X u->A u/\r u<r v)
 mine:∀v u,X v->¬A v->G.own v=p->G.E v u->X u->¬A u
 yours:∀v,X v->¬A v->¬G.own v=p->∃u,G.E v u/\X u/\¬A u
def Mn (X A:Int->Prop):Int->Prop:=λv=>X v/\¬A v
variable {G}{X:Int->Prop}{p:Bool}{S A D D':Int->Prop}
theorem Wins.tail {π:Nat->Int}(k:Nat) (h:Wins G p (λn=>π (n+k))):Wins G p π:=by
 obtain⟨d,h1,h2,N,a⟩:=h
 refine⟨d,h1,λM=>?_,N+k,λn hn=>?_⟩
 · obtain⟨n,hn,b⟩:=h2 M
   exact⟨n+k,by omega,b⟩
 · have:=a (n-k) (by omega)
   dsimp only at this
   rwa [show n-k+k=n from by omega]at this
theorem Wins.not_both {π:Nat->Int}(h:Wins G p π) (g:Wins G (!p) π):False:=by
 obtain⟨d,a1,a2,N,b⟩:=h
 obtain⟨e,a,c,M,f⟩:=g
 obtain⟨n,j,l⟩:=a2 M
 obtain⟨m,i,k⟩:=c N
 have:=f n j
 have:=b m i
 have:d=e:=by omega
 subst this
 rw[a1]at a
 cases p <;> cases a
theorem Play.tail {a:Int->Int}{π:Nat->Int}(h:Play G p D a π) (k:Nat):Play G p D a (λn=>π (n+k)):=λn=>by
 have:=h (n+k)
 rwa [show n+k+1=n+1+k from by omega]at this
theorem Dom.disj (h:Dom G X p D) (u:Dom G X (!p) D'){v:Int}(y:D v) (z:D' v):False:=by
 obtain⟨k,a1,a2,m,o⟩:=h
 obtain⟨l,q,r,s,t⟩:=u
 let b:Int->Int:=λv=>if G.own v=p then k v else l v
 let π:Nat->Int:=λn=>Nat.rec v (λ_ x=>b x) n
 have hs:∀n,π (n+1)=b (π n):=λn=>rfl
 have f:∀w,D w->D' w->G.E w (b w)/\D (b w)/\D' (b w):=λw g i=>by
  by_cases a:G.own w=p
  · have e:b w=k w:=if_pos a
    obtain⟨k1,c⟩:=a2 w g a
    rw[e]
    exact⟨k1,c,s w _ i (by rw[a];cases p <;> simp) k1 (a1 _ c)⟩
  · have e:b w=l w:=if_neg a
    obtain⟨k1,c⟩:=r w i (by revert a;cases G.own w <;> cases p <;> simp)
    rw[e]
    exact⟨k1,m w _ g a k1 (q _ c),c⟩
 have d:∀n,D (π n)/\D' (π n):=λn=>by
  induction n with
  | zero=>exact⟨y,z⟩
  | succ n j=>
   obtain⟨_,c,A⟩:=f _ j.1 j.2
   rw[hs];exact⟨c,A⟩
 refine(o π λn=>⟨(d n).1,by rw[hs];exact(f _ (d n).1 (d n).2).1,λa=>by rw[hs];exact if_pos a⟩).not_both (t π λn=>⟨(d n).2,by rw[hs];exact(f _ (d n).1 (d n).2).1,λa=>by rw[hs];exact if_neg (by rw[a];cases p <;> simp)⟩)
theorem Dom.empty:Dom G X p (λ_=>False):=⟨id,λ_ h=>h.elim,λ_ h=>h.elim,λ_ _ h=>h.elim,λπ h=>(h 0).1.elim⟩
theorem Dom.congr (h:Dom G X p D) (e:∀v,D v↔D' v):Dom G X p D':=by
 have:D=D':=funext λv=>propext (e v)
 exact this ▸ h
theorem descent {r:Nat->Nat}(h:∀n,r (n+1)<r n):False:=by
 have:∀n,r n+n<=r 0:=λn=>by
  induction n with
  | zero=>omega
  | succ n a=>have:=h n;omega
 have:=this (r 0+1)
 omega
theorem Dom.grow (h1:Dom G X p D) (f:IsAttr G X p D A) (h2:Dom G (Mn X A) p D'):Dom G X p (λv=>A v\/D' v):=by
 obtain⟨E,a1,a2,s,H⟩:=h1
 obtain⟨F,i,t,I,J⟩:=h2
 obtain⟨r,hr⟩:=f.rank
 have o:∀v,D v->A v:=λv c=>f.base v (a1 v c) c
 let d:Int->Int:=λv=>if D v then E v else if h:∃u,G.E v u/\A u/\r u<r v then h.choose else F v
 have l:∀v,D v->d v=E v:=λv c=>if_pos c
 have j:∀v,A v->¬D v->G.own v=p->G.E v (d v)/\A (d v)/\r (d v)<r v:=λv c hd a=>by
  rcases hr v c with h | ⟨_,h⟩ | ⟨h,_⟩
  · exact absurd h hd
  · have e:d v=h.choose:=by show(if D v then _ else _)=_;rw[if_neg hd,dif_pos h]
    rw[e];exact h.choose_spec
  · exact absurd a h
 have w:∀v,D' v->G.own v=p->d v=F v:=λv c a=>by
  obtain⟨hx,ha⟩:=i v c
  have:¬∃u,G.E v u/\A u/\r u<r v:=λ⟨u,k1,B,_⟩=>f.mine v u hx ha a k1 (f.sub u B) B
  show(if D v then _ else _)=_
  rw[if_neg (λh=>ha (o v h)),dif_neg this]
 refine⟨d,?_,?_,?_,?_⟩
 · rintro v (h | h)
   · exact f.sub v h
   · exact(i v h).1
 · rintro v (h | h) a
   · by_cases hd:D v
     · rw[l v hd];exact⟨(a2 v hd a).1,.inl (o _ (a2 v hd a).2)⟩
     · exact⟨(j v h hd a).1,.inl (j v h hd a).2.1⟩
   · rw[w v h a];exact⟨(t v h a).1,.inr (t v h a).2⟩
 · rintro v u (h | h) a q hx
   · by_cases hd:D v
     · exact .inl (o u (s v u hd a q hx))
     · rcases hr v h with b | ⟨b,_⟩ | ⟨_,b⟩
       · exact absurd b hd
       · exact absurd b a
       · exact .inl (b u q hx).1
   · by_cases ha:A u
     · exact .inl ha
     · exact .inr (I v u h a q ⟨hx,ha⟩)
 · intro π hπ
   have z:∀n,X (π n):=λn=>by
    rcases(hπ n).1 with h | h
    · exact f.sub _ h
    · exact(i _ h).1
   by_cases hD:∃n,D (π n)
   · obtain⟨n,hn⟩:=hD
     have st:∀k,D (π (k+n)):=λk=>by
      induction k with
      | zero=>rwa [Nat.zero_add]
      | succ k g=>
       have e:k+1+n=k+n+1:=by omega
       by_cases a:G.own (π (k+n))=p
       · have:=(hπ (k+n)).2.2 a
         rw[l _ g]at this
         rw[e,this]
         exact(a2 _ g a).2
       · rw[e];exact s _ _ g a (hπ (k+n)).2.1 (z _)
     refine Wins.tail n (H _ λk=>⟨st k,?_,λa=>?_⟩)
     · have:=(hπ (k+n)).2.1
       rwa [show k+n+1=k+1+n from by omega]at this
     · have:=(hπ (k+n)).2.2 a
       rw[l _ (st k),show k+n+1=k+1+n from by omega]at this
       exact this
   · have hD:∀n,¬D (π n):=λn h=>hD ⟨n,h⟩
     by_cases x:∃n,A (π n)
     · obtain⟨n,hn⟩:=x
       have C:∀m,A (π m)->A (π (m+1))/\r (π (m+1))<r (π m):=λm hm=>by
        by_cases a:G.own (π m)=p
        · rw[(hπ m).2.2 a];exact(j _ hm (hD m) a).2
        · rcases hr _ hm with b | ⟨b,_⟩ | ⟨_,b⟩
          · exact absurd b (hD m)
          · exact absurd b a
          · exact b _ (hπ m).2.1 (z _)
       have st:∀k,A (π (k+n)):=λk=>by
        induction k with
        | zero=>rwa [Nat.zero_add]
        | succ k g=>rw[show k+1+n=k+n+1 from by omega];exact(C _ g).1
       exact(descent (r:=λk=>r (π (k+n))) λk=>by
        have:=(C _ (st k)).2
        rwa [show k+n+1=k+1+n from by omega]at this).elim
     · have y:∀n,D' (π n):=λn=>(hπ n).1.resolve_left λh=>x ⟨n,h⟩
       refine J π λn=>⟨y n,(hπ n).2.1,λa=>?_⟩
       rw[(hπ n).2.2 a,w _ (y n) a]
theorem Dom.lift (i:IsAttr G X p S A) (h:Dom G (Mn X A) (!p) D):Dom G X (!p) D:=by
 obtain⟨k,b,e,f,g⟩:=h
 refine⟨k,λv a=>(b v a).1,e,λv u a d c hx=>f v u a d c ⟨hx,?_⟩,g⟩
 have j:G.own v=p:=by revert d;cases G.own v <;> cases p <;> simp
 exact i.mine v u (b v a).1 (b v a).2 j c hx
theorem Dom.top {d:Int}(D:NoDead G X) (hd:∀v,X v->G.pri v<=d) (hp:oddP d=p) (g:IsAttr G X p (λv=>G.pri v=d) A) (h:Dom G (Mn X A) p (Mn X A)):Dom G X p X:=by
 obtain⟨y,H,z,I,B⟩:=h
 obtain⟨r,hr⟩:=g.rank
 let c:Int->Int:=λv=>if h:∃u,G.E v u/\A u/\r u<r v then h.choose else if A v then(if h:∃u,G.E v u/\X u then h.choose else v) else y v
 have j:∀v,Mn X A v->G.own v=p->c v=y v:=λv b a=>by
  have:¬∃u,G.E v u/\A u/\r u<r v:=λ⟨u,k1,w,_⟩=>g.mine v u b.1 b.2 a k1 (g.sub u w) w
  show(if h:_ then _ else _)=_
  rw[dif_neg this,if_neg b.2]
 have C:∀v,A v->¬G.pri v=d->G.own v=p->A (c v)/\r (c v)<r v:=λv b hd a=>by
  rcases hr v b with h | ⟨_,h⟩ | ⟨h,_⟩
  · exact absurd h hd
  · have e:c v=h.choose:=dif_pos h
    rw[e];exact h.choose_spec.2
  · exact absurd a h
 refine⟨c,λ_ h=>h,λv b a=>?_,λv u _ _ _ hx=>hx,λπ hπ=>?_⟩
 · by_cases ha:A v
   · by_cases h:∃u,G.E v u/\A u/\r u<r v
     · have e:c v=h.choose:=dif_pos h
       rw[e];exact⟨h.choose_spec.1,g.sub _ h.choose_spec.2.1⟩
     · have h2:=D v b
       have e:c v=h2.choose:=by
        show(if h:_ then _ else _)=_
        rw[dif_neg h,if_pos ha,dif_pos h2]
       rw[e];exact h2.choose_spec
   · rw[j v ⟨b,ha⟩ a]
     have:=z v ⟨b,ha⟩ a
     exact⟨this.1,this.2.1⟩
 · have i:∀n,X (π n):=λn=>(hπ n).1
   by_cases q:∀N,∃n,N<=n/\G.pri (π n)=d
   · exact⟨d,hp,q,0,λn _=>hd _ (i n)⟩
   · obtain⟨N,E⟩:=Classical.not_forall.1 q
     have t:∀n,N<=n->¬G.pri (π n)=d:=λn hn h=>E ⟨n,hn,h⟩
     by_cases l:∃n,N<=n/\A (π n)
     · obtain⟨n,J,hn⟩:=l
       have x:∀m,N<=m->A (π m)->A (π (m+1))/\r (π (m+1))<r (π m):=λm s hm=>by
        by_cases a:G.own (π m)=p
        · rw[(hπ m).2.2 a];exact C _ hm (t m s) a
        · rcases hr _ hm with f | ⟨f,_⟩ | ⟨_,f⟩
          · exact absurd f (t m s)
          · exact absurd f a
          · exact f _ (hπ m).2.1 (i _)
       have st:∀k,A (π (k+n)):=λk=>by
        induction k with
        | zero=>rwa [Nat.zero_add]
        | succ k F=>rw[show k+1+n=k+n+1 from by omega];exact(x _ (by omega) F).1
       exact(descent (r:=λk=>r (π (k+n))) λk=>by
        have:=(x _ (by omega) (st k)).2
        rwa [show k+n+1=k+1+n from by omega]at this).elim
     · have o:∀n,N<=n->Mn X A (π n):=λn hn=>⟨i n,λh=>l ⟨n,hn,h⟩⟩
       refine Wins.tail N (B _ λk=>⟨o _ (by omega),?_,λa=>?_⟩)
       · have:=(hπ (k+N)).2.1
         rwa [show k+N+1=k+1+N from by omega]at this
       · have:=(hπ (k+N)).2.2 a
         rw[j _ (o _ (by omega)) a,show k+N+1=k+1+N from by omega]at this
         exact this
theorem NoDead.less (h:NoDead G X) (b:IsAttr G X p S A):NoDead G (Mn X A):=λv ⟨hx,ha⟩=>by
 by_cases c:G.own v=p
 · obtain⟨u,k1,a⟩:=h v hx
   exact⟨u,k1,a,b.mine v u hx ha c k1 a⟩
 · obtain⟨u,k1,a,d⟩:=b.yours v hx ha c
   exact⟨u,k1,a,d⟩
structure Sol (G:Gm) (X:Int->Prop) (p:Bool) (W:Int->Prop):Prop where
 sub:∀v,W v->X v
 mine:Dom G X p W
 yours:Dom G X (!p) (Mn X W)
theorem Sol.uniq {W W':Int->Prop}(h:Sol G X p W) (c:Sol G X p W') (v:Int):W v↔W' v:=by
 constructor
 · intro a
   by_cases b:W' v
   · exact b
   · exact(Dom.disj h.mine c.yours a ⟨h.sub v a,b⟩).elim
 · intro a
   by_cases b:W v
   · exact b
   · exact(Dom.disj c.mine h.yours a ⟨c.sub v a,b⟩).elim
theorem Sol.flip {W:Int->Prop}(h:Sol G X p W):Sol G X (!p) (Mn X W):=by
 refine⟨λv a=>a.1,h.yours,?_⟩
 rw[Bool.not_not]
 refine h.mine.congr λv=>⟨λa=>⟨h.sub v a,λhm=>hm.2 a⟩,λa=>?_⟩
 by_cases b:W v
 · exact b
 · exact absurd ⟨a.1,b⟩ a.2
theorem Sol.congr {W W':Int->Prop}(h:Sol G X p W) (e:∀v,W v↔W' v):Sol G X p W':=by
 have:W=W':=funext λv=>propext (e v)
 exact this ▸ h
end Go.Proofs.YtleekpaohfpooaaGreat.Par
set_option linter.unusedVariables false
set_option linter.unusedSimpArgs false
namespace Go.Proofs.YtleekpaohfpooaaGreat
open Go Go.Wk Go.Proofs
theorem dq {α:Type}{xs ys:List α}{i v:Int}{x:α}(h:setI xs i x=some ys):idx ys v=if v=i then some x else idx xs v:=by
 obtain⟨h0,h1,rfl,_⟩:=lU h
 unfold idx
 by_cases a:0<=v
 · rw[if_pos a,if_pos a]
   by_cases e:v=i
   · subst e
     rw[if_pos rfl,List.getElem?_set_self (by omega)]
   · rw[if_neg e,List.getElem?_set_ne (by omega)]
 · rw[if_neg a,if_neg a,if_neg (by omega)]
theorem dy {α:Type}{xs:List α}{i:Int}(x:α) (h0:0<=i) (h1:i<xs.length):∃ys,setI xs i x=some ys/\ys.length=xs.length:=by
 have:setI xs i x=some (xs.set i.toNat x):=by unfold setI;rw[if_pos ⟨h0,h1⟩]
 exact⟨_,this,(lU this).2.2.2⟩
theorem cF {α:Type}{xs:List α}{i:Int}(h0:0<=i) (h1:i<xs.length):∃x,idx xs i=some x:=by
 obtain⟨x,h,_⟩:=gK h0 h1
 exact⟨x,h⟩
theorem cX {α:Type}{xs:List α}{i:Int}{x:α}(h:idx xs i=some x):0<=i/\i<xs.length:=⟨(c8 h).1,(c8 h).2.1⟩
def posL (v:Int):List Int->Nat
 | []=>0
 | x::xs=>if x=v then 0 else posL v xs+1
theorem te {v:Int}:∀{Q:List Int},v∈Q->Q[posL v Q]? =some v
 | x::xs,h=>by
  unfold posL
  by_cases e:x=v
  · rw[if_pos e,e];rfl
  · rw[if_neg e]
    rcases List.mem_cons.1 h with h | h
    · exact absurd h.symm e
    · simpa using te h
theorem vh {v:Int}:∀{Q:List Int}{m:Nat},Q[m]? =some v->posL v Q<=m
 | x::xs,0,h=>by
  unfold posL
  simp at h
  rw[if_pos h];omega
 | x::xs,m+1,h=>by
  unfold posL
  split
  · omega
  · have:=vh (Q:=xs) (m:=m) (by simpa using h)
    omega
theorem vQ {u:Int}{Q:List Int}{k:Nat}(h:u∈Q.take k):posL u Q<k:=by
 obtain⟨m,hm⟩:=List.mem_iff_getElem?.1 h
 rw[List.getElem?_take]at hm
 split at hm
 · have:=vh hm;omega
 · cases hm
def In (B:List Bool) (v:Int):Prop:=idx B v=some true
section
variable (row:Int->List Int) (own:Int->Bool) (pri:Int->Int) (inn:Int->Prop) (p:Bool) (goal:Int->Prop)
def mkG:Par.Gm:=⟨own,pri,λv u=>u∈row v⟩
structure Cert (Q:List Int):Prop where
 nd:Q.Nodup
 mem:∀v∈Q,inn v
 why:∀(k:Nat) v,Q[k]? =some v->goal v\/(own v=p/\∃u∈Q.take k,u∈row v)\/(¬own v=p/\∀u∈row v,inn u->u∈Q.take k)
variable {row own pri inn p goal}
theorem Cert.snoc {Q:List Int}(h:Cert row own inn p goal Q){v:Int}(d:v∉Q) (hi:inn v) (f:goal v\/(own v=p/\∃u∈Q,u∈row v)\/(¬own v=p/\∀u∈row v,inn u->u∈Q)):Cert row own inn p goal (Q++[v]):=by
 refine⟨?_,?_,?_⟩
 · rw[List.nodup_append]
   exact⟨h.nd,by simp,λa ha b hb=>by simp at hb;subst hb;exact λe=>d (e ▸ ha)⟩
 · intro x hx
   rcases Ad.1 hx with hx | hx
   · exact h.mem x hx
   · simp at hx;subst hx;exact hi
 · intro k x hk
   by_cases c:k<Q.length
   · rw[List.getElem?_append_left c]at hk
     rw[List.take_append_of_le_length (by omega)]
     exact h.why k x hk
   · have:k=Q.length:=by
      have:=(bK.1 hk).1
      simp at this;omega
     subst this
     rw[List.getElem?_append_right (Nat.le_refl _),Nat.sub_self]at hk
     simp at hk
     subst hk
     rw[List.take_append_of_le_length (Nat.le_refl _),List.take_length]
     exact f
def Trap (row:Int->List Int) (own:Int->Bool) (inn:Int->Prop) (p:Bool) (Q:List Int) (d:Int->Int->Prop):Prop:=∀v,inn v->v∉Q->(own v=p->∀y∈row v,inn y->¬d v y)/\(¬own v=p->∃y∈row v,inn y/\¬d v y)
theorem Cert.attr {Q:List Int}(h:Cert row own inn p goal Q) (i:∀v,inn v->goal v->v∈Q) (ht:Trap row own inn p Q (λ_ y=>y∈Q)):Par.IsAttr (mkG row own pri) inn p goal (λv=>v∈Q):=by
 refine⟨h.mem,i,⟨λv=>posL v Q,λv j=>?_⟩,?_,?_⟩
 · have e:∀u,u∈Q.take (posL v Q)->u∈Q/\posL u Q<posL v Q:=λu b=>⟨List.mem_of_mem_take b,vQ b⟩
   rcases h.why _ v (te j) with d | ⟨a,u,b,hr⟩ | ⟨a,d⟩
   · exact .inl d
   · exact .inr (.inl ⟨a,u,hr,e u b⟩)
   · exact .inr (.inr ⟨a,λu hr hx=>e u (d u hr hx)⟩)
 · intro v u hx c a g k
   exact(ht v hx c).1 a u g k
 · intro v hx c a
   obtain⟨y,h1,h2,f⟩:=(ht v hx c).2 a
   exact⟨y,h1,h2,f⟩
end
open Classical in
noncomputable def lf (row:List Int) (inn d:Int->Prop):Nat:=(row.filter (λy=>decide (inn y/\¬d y))).length
theorem uY {row:List Int}{inn d:Int->Prop}:lf row inn d=0↔∀y∈row,inn y->d y:=by
 classical
 unfold lf
 rw[List.length_eq_zero_iff,List.filter_eq_nil_iff]
 constructor
 · intro h y hy a
   by_cases hd:d y
   · exact hd
   · exact absurd (by simp;exact⟨a,hd⟩) (h y hy)
 · intro h y hy hc
   simp at hc
   exact hc.2 (h y hy hc.1)
theorem iu {row:List Int}{inn d b:Int->Prop}(h:∀y∈row,inn y->(d y↔b y)):lf row inn d=lf row inn b:=by
 classical
 unfold lf
 congr 1
 apply List.filter_congr
 intro y hy
 by_cases a:inn y
 · simp[a,h y hy a]
 · simp[a]
theorem yD {row:List Int}{inn d:Int->Prop}:lf row inn d<=row.length:=by
 unfold lf;exact List.length_filter_le _ _
theorem uX {inn d:Int->Prop}{u:Int}:∀{row:List Int},row.Nodup->u∈row->inn u->¬d u->lf row inn (λy=>d y\/y=u)+1=lf row inn d
 | x::xs,hn,hu,hi,hd=>by
  classical
  have b:=List.nodup_cons.1 hn
  by_cases e:x=u
  · subst e
    have:lf xs inn (λy=>d y\/y=x)=lf xs inn d:=iu λy hy _=>⟨λh=>h.resolve_right λe=>b.1 (e ▸ hy),.inl⟩
    unfold lf at this ⊢
    rw[List.filter_cons,if_neg (by simp),List.filter_cons,if_pos (by simp[hi,hd]),z8,this]
  · have c:u∈xs:=(List.mem_cons.1 hu).resolve_left λh=>e h.symm
    have a:=uX b.2 c hi hd
    unfold lf at a ⊢
    rw[List.filter_cons,List.filter_cons]
    by_cases hc:inn x/\¬d x
    · rw[if_pos (by simp[hc,e]),if_pos (by simp[hc]),z8,z8,← a]
    · rw[if_neg (by simp[e];exact λh=>Classical.byContradiction λh2=>hc ⟨h,h2⟩),if_neg (by simp;exact λh=>Classical.byContradiction λh2=>hc ⟨h,h2⟩),a]
def dn (T:List Int) (u:Int) (L:List Int) (v y:Int):Prop:=y∈T\/(y=u/\v∈L)
structure Mid (row:Int->List Int) (own:Int->Bool) (inn:Int->Prop) (p:Bool) (goal:Int->Prop) (T:List Int) (u:Int) (L Q:List Int):Prop where
 cert:Cert row own inn p goal Q
 hu:∃R,Q=T++u::R
 trap:Trap row own inn p Q (dn T u L)
section
variable {row:Int->List Int}{own:Int->Bool}{inn:Int->Prop}{p:Bool}{goal:Int->Prop}{T:List Int}{u:Int}{L Q:List Int}
theorem Mid.u_in (h:Mid row own inn p goal T u L Q):u∈Q/\u∉T/\inn u:=by
 obtain⟨R,e⟩:=h.hu
 have a:u∈Q:=by rw[e];simp
 refine⟨a,?_,h.cert.mem u a⟩
 have:=h.cert.nd
 rw[e,List.nodup_append]at this
 exact λht=>this.2.2 u ht u (by simp) rfl
theorem jW {v w y:Int}(h:w≠v):dn T u (L++[v]) w y↔dn T u L w y:=by
 unfold dn
 rw[Ad,z6]
 constructor
 · rintro(h1 | ⟨h1,h2 | h2⟩)
   · exact .inl h1
   · exact .inr ⟨h1,h2⟩
   · exact absurd h2 h
 · rintro(h1 | ⟨h1,h2⟩)
   · exact .inl h1
   · exact .inr ⟨h1,.inl h2⟩
theorem uO {v y:Int}:dn T u (L++[v]) v y↔y∈T\/y=u:=by
 unfold dn;simp
theorem nH {v y:Int}(h:v∉L):dn T u L v y↔y∈T:=by
 unfold dn;simp[h]
theorem Mid.skip (h:Mid row own inn p goal T u L Q){v:Int}(b:¬inn v\/v∈Q\/u∉row v):Mid row own inn p goal T u (L++[v]) Q:=by
 refine⟨h.cert,h.hu,λw g f=>?_⟩
 obtain⟨j,k⟩:=h.trap w g f
 by_cases e:w=v
 · subst e
   have l:u∉row w:=by
    rcases b with b | b | b
    · exact absurd g b
    · exact absurd b f
    · exact b
   have i:∀y∈row w,(dn T u (L++[w]) w y↔dn T u L w y):=λy hy=>by
    have m:y≠u:=λe=>l (e ▸ hy)
    unfold dn;simp[m]
   refine⟨λa y hy d=>λhd=>j a y hy d ((i y hy).1 hd),λa=>?_⟩
   obtain⟨y,h1,h2,c⟩:=k a
   exact⟨y,h1,h2,λhd=>c ((i y h1).1 hd)⟩
 · refine⟨λa y hy d=>λhd=>j a y hy d ((jW e).1 hd),λa=>?_⟩
   obtain⟨y,h1,h2,c⟩:=k a
   exact⟨y,h1,h2,λhd=>c ((jW e).1 hd)⟩
theorem Mid.stay (h:Mid row own inn p goal T u L Q){v:Int}(a:¬own v=p) (hl:lf (row v) inn (λy=>y∈T\/y=u)≠0):Mid row own inn p goal T u (L++[v]) Q:=by
 refine⟨h.cert,h.hu,λw g f=>?_⟩
 obtain⟨i,j⟩:=h.trap w g f
 by_cases e:w=v
 · subst e
   refine⟨λd=>absurd d a,λ_=>?_⟩
   apply Classical.byContradiction
   intro hc
   apply hl
   rw[uY]
   intro y hy b
   apply Classical.byContradiction
   intro hd
   exact hc ⟨y,hy,b,λh=>hd (uO.1 h)⟩
 · refine⟨λa y hy b=>λhd=>i a y hy b ((jW e).1 hd),λa=>?_⟩
   obtain⟨y,h1,h2,c⟩:=j a
   exact⟨y,h1,h2,λhd=>c ((jW e).1 hd)⟩
theorem Mid.add (h:Mid row own inn p goal T u L Q){v:Int}(hi:inn v) (f:v∉Q) (g:u∈row v) (i:own v=p\/lf (row v) inn (λy=>y∈T\/y=u)=0):Mid row own inn p goal T u (L++[v]) (Q++[v]):=by
 obtain⟨R,e⟩:=h.hu
 have d:∀y,y∈T\/y=u->y∈Q:=λy hy=>by
  rw[e]
  rcases hy with hy | hy
  · simp[hy]
  · simp[hy]
 refine⟨h.cert.snoc f hi ?_,⟨R++[v],by rw[e];simp⟩,λw j b=>?_⟩
 · by_cases a:own v=p
   · exact .inr (.inl ⟨a,u,h.u_in.1,g⟩)
   · exact .inr (.inr ⟨a,λy hy k=>d y ((uY.1 (i.resolve_left a)) y hy k)⟩)
 · rw[Ad,z6,not_or]at b
   obtain⟨l,m⟩:=h.trap w j b.1
   refine⟨λa y hy hi=>λhd=>l a y hy hi ((jW b.2).1 hd),λa=>?_⟩
   obtain⟨y,h1,h2,c⟩:=m a
   exact⟨y,h1,h2,λhd=>c ((jW b.2).1 hd)⟩
theorem Mid.first {R:List Int}(hc:Cert row own inn p goal (T++u::R)) (ht:Trap row own inn p (T++u::R) (λ_ y=>y∈T)):Mid row own inn p goal T u [] (T++u::R):=by
 refine⟨hc,⟨R,rfl⟩,λv e d=>?_⟩
 obtain⟨f,g⟩:=ht v e d
 refine⟨λa y hy c hd=>f a y hy c ((nH (by simp)).1 hd),λa=>?_⟩
 obtain⟨y,h1,h2,b⟩:=g a
 exact⟨y,h1,h2,λhd=>b ((nH (by simp)).1 hd)⟩
theorem Mid.last (h:Mid row own inn p goal T u L Q) (hL:∀v,inn v->u∈row v->v∈L):Trap row own inn p Q (λ_ y=>y∈T++[u]):=λv b e=>by
 obtain⟨g,i⟩:=h.trap v b e
 have f:∀y∈row v,(y∈T++[u]->dn T u L v y):=λy hy hm=>by
  rw[Ad,z6]at hm
  rcases hm with hm | hm
  · exact .inl hm
  · exact .inr ⟨hm,hL v b (hm ▸ hy)⟩
 refine⟨λa y hy d hd=>g a y hy d (f y hy hd),λa=>?_⟩
 obtain⟨y,h1,h2,c⟩:=i a
 exact⟨y,h1,h2,λhd=>c (by
  rcases Ad.1 hd with hm | hm
  · exact .inl hm
  · rw[z6]at hm
    exact .inr ⟨hm,hL v b (hm ▸ h1)⟩)⟩
end
end Go.Proofs.YtleekpaohfpooaaGreat
set_option linter.unusedVariables false
set_option linter.unusedSimpArgs false
namespace Go.Proofs.YtleekpaohfpooaaGreat
open Go Go.Wk Go.Proofs
structure WfS (x:l7Game) (n:Nat):Prop where
 n256:n<=256
 lo:x.owner.length=n
 lp:x.prio.length=n
 ln:x.next.length=n
 lk:x.pick.length=n
 lv:x.prev.length=n
 ow:∀v o,idx x.owner v=some o->o=0\/o=1
 row:∀v r,idx x.next v=some r->r.length<=16/\r.Nodup/\∀u∈r,0<=u/\u<n
 prev:∀u P,idx x.prev u=some P->P.Nodup/\P.length<=100000/\∀v,v∈P↔∃r,idx x.next v=some r/\u∈r
def okE (k u:Int):Bool:=decide (k<0)||(k==u)
def rowS (x:l7Game) (v:Int):List Int:=match idx x.next v,idx x.pick v with
 | some r,some k=>r.filter (okE k)
 | _,_=>[]
def ownL (O:List Int) (v:Int):Bool:=match idx O v with
 | some o=>o==1
 | none=>false
def priL (P:List Int) (v:Int):Int:=(idx P v).getD 0
theorem rS {x:l7Game}{v k:Int}{r:List Int}(hr:idx x.next v=some r) (hk:idx x.pick v=some k):rowS x v=r.filter (okE k):=by unfold rowS;rw[hr,hk]
theorem xk {x:l7Game}{v k:Int}(u:Int) (hk:idx x.pick v=some k):lw x v u=some (okE k u):=by
 unfold lw okE
 rw[hk,bI]
 cases decide (k<0) <;> simp
theorem ye {O:List Int}{v o:Int}{p:Bool}(h:idx O v=some o) (a:o=0\/o=1):(o==b2i p)=decide (ownL O v=p):=by
 unfold ownL
 rw[h]
 rcases a with rfl | rfl <;> cases p <;> decide
section
variable {x:l7Game}{n:Nat}(wf:WfS x n){B:List Bool}(hB:B.length=n)
include wf
theorem WfS.get {v:Int}(h0:0<=v) (h1:v<n):∃r k,idx x.next v=some r/\idx x.pick v=some k:=by
 have:=wf.ln
 have:=wf.lk
 obtain⟨r,hr⟩:=cF (xs:=x.next) h0 (by omega)
 obtain⟨k,hk⟩:=cF (xs:=x.pick) h0 (by omega)
 exact⟨r,k,hr,hk⟩
theorem rT (v:Int):(rowS x v).Nodup/\(rowS x v).length<=16/\∀u∈rowS x v,0<=u/\u<n:=by
 unfold rowS
 cases hr:idx x.next v with
 | none=>simp
 | some r=>
  cases hk:idx x.pick v with
  | none=>simp
  | some k=>
   obtain⟨h1,h2,a⟩:=wf.row v r hr
   exact⟨h2.filter _,Nat.le_trans (List.length_filter_le _ _) h1,λu b=>a u (List.mem_filter.1 b).1⟩
include hB
omit wf in
theorem l9 {v:Int}(h:In B v):0<=v/\v<n:=by
 have:=cX h
 rw[hB]at this
 exact this
theorem xj {v:Int}(h0:0<=v) (h1:v<n):kr x B v=some (lf (rowS x v) (In B) (λ_=>False):Int):=by
 classical
 obtain⟨r,k,hr,hk⟩:=wf.get h0 h1
 obtain⟨p,q,i⟩:=wf.row v r hr
 let g:Int->Bool:=λu=>decide (In B u)&&okE k u
 unfold kr
 obtain⟨o,w1,m⟩:=cC (f:=gD x B v) (λj (s:Int×Int)=>s=((((r.take j).filter g).length:Int),(j:Int))/\j<=r.length) (λ_=>False) (λs=>s.1=((r.filter g).length:Int)) r.length (λj s ⟨hs,hj⟩=>by
  subst hs
  unfold gD
  rw[hr,bI]
  dsimp only
  by_cases c:(j:Int)<(r.length:Int)
  · have a:r[j]? =some r[j]:=bJ (by omega)
    generalize r[j]=u at a
    obtain⟨l,t⟩:=i u (bQ a)
    obtain⟨b,hb⟩:=cF (xs:=B) l (by omega)
    have hle:((r.take j).filter g).length<=j:=Nat.le_trans (List.length_filter_le _ _) (by rw[z9];omega)
    simp only[c,decide_true,cond_true,bI,bS,a,hb,xk u hk,andE]
    have e:(b&&okE k u)=g u:=by
     show _=(decide (In B u)&&okE k u)
     congr 1
     unfold In;rw[hb];cases b <;> simp
    rw[e]
    have d:(r.take (j+1)).filter g=(r.take j).filter g++(if g u then[u] else[]):=by
     rw[Ae,a,List.filter_append];congr 1
     cases h:g u <;> simp[h]
    rw[wr' (by omega) (by omega),wr' (by omega) (by omega)]
    cases h:g u with
    | true=>exact⟨_,rfl,by omega,by rw[d,h];simp,by omega⟩
    | false=>exact⟨_,rfl,by omega,by rw[d,h];simp,by omega⟩
  · simp only[c,decide_false,cond_false]
    refine⟨_,rfl,?_⟩
    dsimp only
    rw[List.take_of_length_le (by omega)]) (2 ^ 64) 0 (0,0) (by omega) ⟨by simp,by omega⟩ (by omega)
 match o,m with
 | .inr s,h2=>
  rw[w1,bI,bV,h2,rS hr hk]
  unfold lf
  rw[List.filter_filter]
  congr 3
  apply List.filter_congr
  intro u _
  show(decide (In B u)&&okE k u)=_
  simp
theorem tF {goal:Int->Prop}{p:Bool}{T L Q:List Int}{u v:Int}{out:List Bool}{left:List Int}(hm:Mid (rowS x) (ownL x.owner) (In B) p goal T u L Q) (N:v∉L)
 {P:List Int} {j:Nat} (A:idx x.prev u=some P) (hj:P[j]? =some v) (X:Q.length<=100000)
 (l:out.length=n/\∀v:Int,0<=v->v<n->idx out v=some (decide (v∈Q))) (hl:left.length=n/\∀v,In B v->v∉Q->idx left v=some (lf (rowS x v) (In B) (dn T u L v):Int)):
 ∃Q' o d,dR x B (b2i p) u (Q,(j:Int),out,left)=some (.inr (.inr (Q',((j+1:Nat):Int),o,d)))/\Mid (rowS x) (ownL x.owner) (In B) p goal T u (L++[v]) Q' /\
  (o.length=n/\∀v:Int,0<=v->v<n->idx o v=some (decide (v∈Q')))/\(d.length=n/\∀w,In B w->w∉Q'->idx d w=some (lf (rowS x w) (In B) (dn T u (L++[v]) w):Int))/\(∀v∈Q,v∈Q'):=by
 have hn:=wf.n256
 obtain⟨ac,ad,U⟩:=wf.prev u P A
 obtain⟨r,hr,M⟩:=(U v).1 (bQ hj)
 obtain⟨f,q⟩:=cX hr
 rw[wf.ln]at q
 obtain⟨k,hk⟩:=cF (xs:=x.pick) f (by rw[wf.lk];exact q)
 obtain⟨b,hb⟩:=cF (xs:=B) f (by omega)
 obtain⟨w,a⟩:=cF (xs:=x.owner) f (by rw[wf.lo];exact q)
 have hjl:(j:Int)<(P.length:Int):=by have:=(bK.1 hj).1;omega
 have O:IntKind.i64.wrap ((j:Int)+1)=((j+1:Nat):Int):=by rw[wr' (by omega) (by omega)];omega
 unfold dR
 rw[A,bI]
 dsimp only
 simp only[hjl,decide_true,cond_true,bI,bS,hj,hb,l.2 v f q,xk u hk,orE,O]
 have E:u∈rowS x v↔okE k u=true:=by rw[rS hr hk,List.mem_filter];exact⟨λh=>h.2,λh=>⟨M,h⟩⟩
 have D:∀w,w≠v->lf (rowS x w) (In B) (dn T u (L++[v]) w)=lf (rowS x w) (In B) (dn T u L w):=λw a=>iu λy _ _=>jW a
 by_cases g:((!b||decide (v∈Q)) || !okE k u)=true
 · rw[g,cond_true]
   have C:¬In B v\/v∈Q\/u∉rowS x v:=by
    simp only[Bool.or_eq_true,Bool.not_eq_true',decide_eq_true_eq]at g
    rcases g with (h | h) | h
    · left;unfold In;rw[hb,h];simp
    · exact .inr (.inl h)
    · right;right;rw[E,h];simp
   refine⟨Q,out,left,rfl,hm.skip C,l,⟨hl.1,λy hy c=>?_⟩,λ_ h=>h⟩
   rw[hl.2 y hy c]
   by_cases e:y=v
   · subst e
     have m:u∉rowS x y:=by
      rcases C with h | h | h
      · exact absurd hy h
      · exact absurd h c
      · exact h
     congr 2
     exact iu λz S _=>by
      have:z≠u:=λe=>m (e ▸ S)
      unfold dn;simp[this]
   · rw[D y e]
 · simp only[Bool.not_eq_true,Bool.or_eq_false_iff,Bool.not_eq_false',decide_eq_false_iff_not]at g
   obtain⟨⟨h1,h2⟩,t⟩:=g
   subst h1
   have F:In B v:=hb
   have m:u∈rowS x v:=E.2 t
   have J:=hl.2 v F h2
   have Y:lf (rowS x v) (In B) (λy=>y∈T\/y=u)+1=lf (rowS x v) (In B) (dn T u L v):=by
    rw[uX (rT wf v).1 m hm.u_in.2.2 hm.u_in.2.1]
    exact iu λy _ _=>(nH N).symm
   have Z:lf (rowS x v) (In B) (dn T u L v)<=16:=Nat.le_trans yD (rT wf v).2.1
   obtain⟨d,hs,aa⟩:=dy (xs:=left) (i:=v) (lf (rowS x v) (In B) (λy=>y∈T\/y=u):Int) f (by omega)
   have R:IntKind.i64.wrap ((lf (rowS x v) (In B) (dn T u L v):Int)-1)=(lf (rowS x v) (In B) (λy=>y∈T\/y=u):Int):=by rw[wr' (by omega) (by omega)];omega
   have K:idx d v=some (lf (rowS x v) (In B) (λy=>y∈T\/y=u):Int):=by rw[dq hs,if_pos rfl]
   have G:∀w,In B w->w∉Q->idx d w=some (lf (rowS x w) (In B) (dn T u (L++[v]) w):Int):=λw a c=>by
    rw[dq hs]
    by_cases e:w=v
    · subst e
      rw[if_pos rfl]
      congr 2
      exact iu λy _ _=>uO.symm
    · rw[if_neg e,hl.2 w a c,D w e]
   have I:((lf (rowS x v) (In B) (λy=>y∈T\/y=u):Int)==0)=decide (lf (rowS x v) (In B) (λy=>y∈T\/y=u)=0):=by
    rw[Ab];simp
   simp only[h2,t,decide_false,zZ,Bool.or_false,cond_false,J,bI,R,hs,a,ye a (wf.ow v w a),K,I,orE]
   by_cases hc:ownL x.owner v=p\/lf (rowS x v) (In B) (λy=>y∈T\/y=u)=0
   · have s:(decide (ownL x.owner v=p)||decide (lf (rowS x v) (In B) (λy=>y∈T\/y=u)=0))=true:=by simpa using hc
     obtain⟨o,H,ab⟩:=dy (xs:=out) (i:=v) true f (by omega)
     simp only[s,cond_true,H,bI,app1 (show Q.length<=10000000000 by omega) (show Nat.ble 8 1024=true from rfl)]
     refine⟨_,_,_,rfl,hm.add F h2 m hc,⟨by omega,λy V W=>?_⟩,⟨by omega,λw a c=>G w a λh=>c (List.mem_append_left _ h)⟩,λ_ h=>List.mem_append_left _ h⟩
     rw[dq H]
     by_cases e:y=v
     · subst e;simp
     · rw[if_neg e,l.2 y V W];simp[e]
   · have s:(decide (ownL x.owner v=p)||decide (lf (rowS x v) (In B) (λy=>y∈T\/y=u)=0))=false:=by simpa using hc
     rw[not_or]at hc
     simp only[s,cond_false,bI]
     exact⟨_,_,_,rfl,hm.stay hc.1 hc.2,l,⟨by omega,G⟩,λ_ h=>h⟩
end
end Go.Proofs.YtleekpaohfpooaaGreat
