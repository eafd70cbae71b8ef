/- Plain laws on data: loops, indexes, the sizes. No program in sight. -/
import Derived.Test.YtldlmopdhmaceaaGreatDoorFbBE
set_option linter.unusedVariables false
set_option linter.unusedSimpArgs false
open Option renaming bind → FR
namespace Go.Wk
open Go
theorem wr {z:Int}(h:I64 z):IntKind.wrap .i64 z=z:=by
 unfold I64 at h
 rw[IntKind.wrap_i64];omega
theorem wr' {z:Int}(a: -9223372036854775808<=z) (b:z<=9223372036854775807):IntKind.wrap .i64 z=z:=wr ⟨a,b⟩
theorem bT {α:Type}(xs:List α) (i:Nat):idx xs (i:Int)=xs[i]?:=by simp[idx]
theorem cN {α:Type}{xs:List α}{z:Int}(h:0<=z):idx xs z=xs[z.toNat]?:=by simp[idx,h]
theorem vT {i d:Type}{f:Int->d->Option (i⊕(d⊕d))}(I:Nat->d->Prop) (R:i->Prop) (B:d->Prop) (N:Nat)
 (g:∀(j:Nat) s,j<N->I j s->∃b,f j s=some b/\(match b with
  |.inl e=>R e
  |.inr (.inl a)=>B a
  |.inr (.inr a)=>I (j+1) a)):
 ∀(k j:Nat) (s:d),j+k=N->I j s->∃b,cntM f k j s=some b/\(match b with
  |.inl e=>R e
  |.inr a=>I N a\/B a)
 |0,j,s,hj,h=>⟨.inr s,rfl,.inl (by rw[← hj];exact h)⟩
 |k+1,j,s,hj,h=>by
  obtain⟨b,n,c⟩:=g j s (by omega) h
  show ∃b,FR (f j s) _=some b/\_
  rw[n]
  match b,c with
  |.inl e,c=>exact⟨.inl e,rfl,c⟩
  |.inr (.inl a),c=>exact⟨.inr a,rfl,.inr c⟩
  |.inr (.inr a),c=>
   obtain⟨o,l,m⟩:=vT I R B N g k (j+1) a (by omega) c
   exact⟨o,l,m⟩
theorem cg {o b:Type}{f:Int->b->Option (o⊕(b⊕b))}(I:Nat->b->Prop) (N:Nat){s:b}(d:I 0 s)
 (n:∀(j:Nat) s,j<N->I j s->∃a,f j s=some (.inr (.inr a))/\I (j+1) a):∃a,cntM f N 0 s=some (.inr a)/\I N a:=by
 obtain⟨m,e,c⟩:=vT I (λ_=>False) (λ_=>False) N (λj s l k=>by
  obtain⟨a,g,i⟩:=n j s l k
  exact⟨_,g,i⟩) N 0 s (by omega) d
 match m,c with
 |.inr a,c=>exact⟨a,e,c.resolve_right id⟩
theorem xy {e b:Type}{f:Int->b->Option (e⊕(b⊕b))}(I:Nat->b->Prop) (R:e->Prop) (B:b->Prop) (N:Nat){s:b}
 (h:I 0 s) (g:∀(j:Nat) s,j<N->I j s->∃c,f j s=some c/\(match c with
  |.inl d=>R d
  |.inr (.inl a)=>B a
  |.inr (.inr a)=>I (j+1) a)):
 ∃c,cntM f N 0 s=some c/\(match c with
  |.inl d=>R d
  |.inr a=>I N a\/B a):=vT I R B N g N 0 s (by omega) h
theorem jF {c a:Type}{f:a->Option (c⊕(a⊕a))}{N:Nat}(h:0<N) (s:a):ci f N s=FR (f s) (lpK (ci f (N-1))):=by
 obtain⟨b,rfl⟩:∃b,N=b+1:=⟨N-1,by omega⟩
 rfl
theorem zL {c α:Type}{f:Int->Unit->Option (c⊕(Unit⊕Unit))}{r:c}(g:α->Bool):∀(xs ys:List α) (j:Nat),(∀(i:Nat) x,xs[i]? =some x->f ((j+i:Nat):Int) ()=some (if g x then .inr (.inr ()) else .inl r)) ->
 cntM f xs.length j ()=some (if xs.all g then .inr () else .inl r)
 | [],_,_,_=>rfl
 |x::xs,ys,j,h=>by
  have a:=h 0 x rfl
  show FR (f j ()) _=_
  rw[Nat.add_zero]at a
  rw[a]
  by_cases b:g x=true
  .simp only[b,if_true,Option.bind_some,lU,List.all_cons,Bool.true_and]
   exact zL g xs ys (j+1) λi e d=>by
    have:=h (i+1) e (by simpa using d)
    rw[show j+1+i=j+(i+1) from by omega]
    exact this
  .simp[b,lpK]
theorem d9 {b α:Type}{f:Int->Unit->Option (b⊕(Unit⊕Unit))}{r:b}(g:α->Bool){xs:List α}{n:Nat}(c:n=xs.length) (h:∀(i:Nat) a,xs[i]? =some a->f (i:Int) ()=some (if g a then .inr (.inr ()) else .inl r)):
 cntM f n 0 ()=some (if xs.all g then .inr () else .inl r):=by
 subst c
 exact zL g xs xs 0 λi a d=>by rw[Nat.zero_add];exact h i a d
theorem qZ {α:Type}{xs:List α}{i:Nat}{x:α}(h:i<xs.length):setI xs (i:Int) x=some (xs.set i x):=by
 unfold setI
 simp[h]
theorem dq {α:Type}{a:Nat}{m:Nat}{z:α}(h:m<=1048576) (b:Nat.ble a 1024=true):mkS a (m:Int) z=some (List.replicate m z):=by
 have b:=Nat.ble_eq.mp b
 unfold mkS
 have:a * m<=1024 * 1048576:=Nat.mul_le_mul b h
 simp
 omega
theorem xx {d α:Type}{f:Int->Unit->Option (d⊕(Unit⊕Unit))}(g:α->Bool) (a:Nat->d):∀(xs:List α) (j:Nat),(∀(i:Nat) x,xs[i]? =some x->f ((j+i:Nat):Int) ()=some (if g x then .inl (a (j+i)) else .inr (.inr ()))) ->
 cntM f xs.length j ()=some (match xs.findIdx? g with | some i=> .inl (a (j+i)) | none=> .inr ())
 | [],_,_=>rfl
 |x::xs,j,h=>by
  have b:=h 0 x rfl
  show FR (f j ()) _=_
  rw[Nat.add_zero]at b
  rw[b,List.findIdx?_cons]
  by_cases c:g x=true
  .simp[c,lpK]
  .simp only[c,Option.bind_some,lU,Bool.false_eq_true,if_false]
   have l:=xx g a xs (j+1) λi m k=>by
    have:=h (i+1) m (by simpa using k)
    rw[show j+1+i=j+(i+1) from by omega]
    exact this
   have e:((j:Int)+1)=((j+1:Nat):Int):=by omega
   rw[e,l]
   cases xs.findIdx? g with
   |none=>rfl
   |some i=>simp[show j+1+i=j+(i+1) from by omega]
theorem gE {c α:Type}{f:Int->Unit->Option (c⊕(Unit⊕Unit))}(g:α->Bool) (b:Nat->c){xs:List α}(h:∀(i:Nat) a,xs[i]? =some a->f (i:Int) ()=some (if g a then .inl (b i) else .inr (.inr ()))):
 cntM f xs.length 0 ()=some (match xs.findIdx? g with | some i=> .inl (b i) | none=> .inr ()):=by
 have:=xx g b xs 0 (f:=f) λi a d=>by rw[Nat.zero_add];exact h i a d
 simpa using this
theorem oe {α:Type}(g:α->Bool) (xs:List α):decide ((0:Int)<=(match xs.findIdx? g with | some i=>(i:Int) | none=> -1))=xs.any g:=by
 cases h:xs.findIdx? g with
 |none=>
  rw[List.findIdx?_eq_none_iff]at h
  have:xs.any g=false:=by rw[List.any_eq_false];intro c b;simp[h c b]
  simp[this]
 |some i=>
  have a:=List.findIdx?_isSome (p:=g) (xs:=xs)
  rw[h]at a
  simp at a
  have:xs.any g=true:=by rw[List.any_eq_true];exact a
  rw[this]
  simp
theorem zM {e α d:Type}{f:Int->Unit->Option (e⊕(Unit⊕Unit))}{r:e}(b:α->d->Bool){xs:List α}{ys:List d}(g:xs.length=ys.length)
 (h:∀(i:Nat) x y,xs[i]? =some x->ys[i]? =some y->f (i:Int) ()=some (if b x y then .inr (.inr ()) else .inl r)):
 cntM f xs.length 0 ()=some (if(xs.zip ys).all (λa=>b a.1 a.2) then .inr () else .inl r):=by
 have:=d9 (f:=f) (r:=r) (λa:α×d=>b a.1 a.2) (xs:=xs.zip ys) (n:=xs.length) (by simp[g]) λi a c=>by
  rw[List.getElem?_zip_eq_some]at c
  exact h i a.1 a.2 c.1 c.2
 exact this
theorem qf {α:Type} [DecidableEq α]:∀{xs ys:List α},xs.length=ys.length->((xs.zip ys).all λa=>decide (a.1=a.2))=decide (xs=ys)
 | [],[],_=>rfl
 | [],_::_,h=>by cases h
 |_::_,[],h=>by cases h
 |x::xs,y::ys,h=>by
  have b:=qf (xs:=xs) (ys:=ys) (by simpa using h)
  simp only[List.zip_cons_cons,List.all_cons,b,List.cons.injEq,Bool.decide_and]
theorem Ea {α:Type}{xs ys:List α}:((xs.length:Int) !=(ys.length:Int))= !(decide (xs.length=ys.length)):=by
 rw[bne]
 congr 1
 by_cases h:xs.length=ys.length
 .simp[h]
 .have:¬((xs.length:Int)=(ys.length:Int)):=by omega
  simp[h,this]
end Go.Wk
