/- Plain laws on data: loops, indexes, the sizes. No program in sight. -/
import Derived.Test.YtgbippnfaoedmaaGreatDoorFbBG
set_option linter.unusedVariables false
set_option linter.unusedSimpArgs false
open Option renaming bind → zm
namespace Go.Wk
open Go
theorem wr {z:Int}(h:I64 z):IntKind.wrap .i64 z=z:=by
 unfold I64 at h
 rw[IntKind.wrap_i64];omega
theorem wr' {z:Int}(a: -9223372036854775808<=z) (b:z<=9223372036854775807):IntKind.wrap .i64 z=z:=wr ⟨a,b⟩
theorem aS {a:Type}(xs:List a) (i:Nat):idx xs (i:Int)=xs[i]?:=by simp[idx]
theorem dE {a:Type}{xs:List a}{z:Int}(h:0<=z):idx xs z=xs[z.toNat]?:=by simp[idx,h]
theorem nI {g σ:Type}{f:Int->σ->Option (g⊕(σ⊕σ))}(I:Nat->σ->Prop) (R:g->Prop) (B:σ->Prop) (N:Nat)
 (e:∀(j:Nat) s,j<N->I j s->∃b,f j s=some b/\(match b with
  |.inl d=>R d
  |.inr (.inl a)=>B a
  |.inr (.inr a)=>I (j+1) a)):
 ∀(k j:Nat) (s:σ),j+k=N->I j s->∃b,cntM f k j s=some b/\(match b with
  |.inl d=>R d
  |.inr a=>I N a\/B a)
 |0,j,s,hj,h=>⟨.inr s,rfl,.inl (by rw[← hj];exact h)⟩
 |k+1,j,s,hj,h=>by
  obtain⟨b,m,c⟩:=e j s (by omega) h
  show ∃b,zm (f j s) _=some b/\_
  rw[m]
  match b,c with
  |.inl d,c=>exact⟨.inl d,rfl,c⟩
  |.inr (.inl a),c=>exact⟨.inr a,rfl,.inr c⟩
  |.inr (.inr a),c=>
   obtain⟨n,i,l⟩:=nI I R B N e k (j+1) a (by omega) c
   exact⟨n,i,l⟩
theorem ba {n σ:Type}{f:Int->σ->Option (n⊕(σ⊕σ))}(I:Nat->σ->Prop) (N:Nat){s:σ}(c:I 0 s)
 (m:∀(j:Nat) s,j<N->I j s->∃a,f j s=some (.inr (.inr a))/\I (j+1) a):∃a,cntM f N 0 s=some (.inr a)/\I N a:=by
 obtain⟨l,d,b⟩:=nI I (λ_=>False) (λ_=>False) N (λj s k i=>by
  obtain⟨a,e,g⟩:=m j s k i
  exact⟨_,e,g⟩) N 0 s (by omega) c
 match l,b with
 |.inr a,b=>exact⟨a,d,b.resolve_right id⟩
theorem lP {d σ:Type}{f:Int->σ->Option (d⊕(σ⊕σ))}(I:Nat->σ->Prop) (R:d->Prop) (B:σ->Prop) (N:Nat){s:σ}
 (h:I 0 s) (e:∀(j:Nat) s,j<N->I j s->∃b,f j s=some b/\(match b with
  |.inl c=>R c
  |.inr (.inl a)=>B a
  |.inr (.inr a)=>I (j+1) a)):
 ∃b,cntM f N 0 s=some b/\(match b with
  |.inl c=>R c
  |.inr a=>I N a\/B a):=nI I R B N e N 0 s (by omega) h
theorem oP {b σ:Type}{f:σ->Option (b⊕(σ⊕σ))}{N:Nat}(h:0<N) (s:σ):bn f N s=zm (f s) (lpK (bn f (N-1))):=by
 obtain⟨a,rfl⟩:∃a,N=a+1:=⟨N-1,by omega⟩
 rfl
theorem tm {d c:Type}{f:Int->Unit->Option (d⊕(Unit⊕Unit))}{r:d}(g:c->Bool):∀(xs ys:List c) (j:Nat),(∀(i:Nat) x,xs[i]? =some x->f ((j+i:Nat):Int) ()=some (if g x then .inr (.inr ()) else .inl r)) ->
 cntM f xs.length j ()=some (if xs.all g then .inr () else .inl r)
 | [],_,_,_=>rfl
 |x::xs,ys,j,h=>by
  have a:=h 0 x rfl
  show zm (f j ()) _=_
  rw[Nat.add_zero]at a
  rw[a]
  by_cases b:g x=true
  .simp only[b,if_true,Option.bind_some,jV,List.all_cons,Bool.true_and]
   exact tm g xs ys (j+1) λi k e=>by
    have:=h (i+1) k (by simpa using e)
    rw[show j+1+i=j+(i+1) from by omega]
    exact this
  .simp[b,lpK]
theorem jo {c b:Type}{f:Int->Unit->Option (c⊕(Unit⊕Unit))}{r:c}(g:b->Bool){xs:List b}{n:Nat}(d:n=xs.length) (h:∀(i:Nat) a,xs[i]? =some a->f (i:Int) ()=some (if g a then .inr (.inr ()) else .inl r)):
 cntM f n 0 ()=some (if xs.all g then .inr () else .inl r):=by
 subst d
 exact tm g xs xs 0 λi a e=>by rw[Nat.zero_add];exact h i a e
theorem vp {a:Type}{xs:List a}{i:Nat}{x:a}(h:i<xs.length):setI xs (i:Int) x=some (xs.set i x):=by
 unfold setI
 simp[h]
theorem bL {c:Type}{a:Nat}{m:Nat}{z:c}(h:m<=1048576) (b:Nat.ble a 1024=true):mkS a (m:Int) z=some (List.replicate m z):=by
 have b:=Nat.ble_eq.mp b
 unfold mkS
 have:a * m<=1024 * 1048576:=Nat.mul_le_mul b h
 simp
 omega
theorem qW {e d:Type}{f:Int->Unit->Option (e⊕(Unit⊕Unit))}(g:d->Bool) (a:Nat->e):∀(xs:List d) (j:Nat),(∀(i:Nat) x,xs[i]? =some x->f ((j+i:Nat):Int) ()=some (if g x then .inl (a (j+i)) else .inr (.inr ()))) ->
 cntM f xs.length j ()=some (match xs.findIdx? g with | some i=> .inl (a (j+i)) | none=> .inr ())
 | [],_,_=>rfl
 |x::xs,j,h=>by
  have b:=h 0 x rfl
  show zm (f j ()) _=_
  rw[Nat.add_zero]at b
  rw[b,List.findIdx?_cons]
  by_cases c:g x=true
  .simp[c,lpK]
  .simp only[c,Option.bind_some,jV,Bool.false_eq_true,if_false]
   have m:=qW g a xs (j+1) λi n l=>by
    have:=h (i+1) n (by simpa using l)
    rw[show j+1+i=j+(i+1) from by omega]
    exact this
   have k:((j:Int)+1)=((j+1:Nat):Int):=by omega
   rw[k,m]
   cases xs.findIdx? g with
   |none=>rfl
   |some i=>simp[show j+1+i=j+(i+1) from by omega]
theorem tV {d c:Type}{f:Int->Unit->Option (d⊕(Unit⊕Unit))}(g:c->Bool) (b:Nat->d){xs:List c}(h:∀(i:Nat) a,xs[i]? =some a->f (i:Int) ()=some (if g a then .inl (b i) else .inr (.inr ()))):
 cntM f xs.length 0 ()=some (match xs.findIdx? g with | some i=> .inl (b i) | none=> .inr ()):=by
 have:=qW g b xs 0 (f:=f) λi a e=>by rw[Nat.zero_add];exact h i a e
 simpa using this
theorem re {b:Type}(g:b->Bool) (xs:List b):decide ((0:Int)<=(match xs.findIdx? g with | some i=>(i:Int) | none=> -1))=xs.any g:=by
 cases h:xs.findIdx? g with
 |none=>
  rw[List.findIdx?_eq_none_iff]at h
  have:xs.any g=false:=by rw[List.any_eq_false];intro d c;simp[h d c]
  simp[this]
 |some i=>
  have a:=List.findIdx?_isSome (p:=g) (xs:=xs)
  rw[h]at a
  simp at a
  have:xs.any g=true:=by rw[List.any_eq_true];exact a
  rw[this]
  simp
theorem vM {g c d:Type}{f:Int->Unit->Option (g⊕(Unit⊕Unit))}{r:g}(e:c->d->Bool){xs:List c}{ys:List d}(j:xs.length=ys.length)
 (h:∀(i:Nat) x y,xs[i]? =some x->ys[i]? =some y->f (i:Int) ()=some (if e x y then .inr (.inr ()) else .inl r)):
 cntM f xs.length 0 ()=some (if(xs.zip ys).all (λa=>e a.1 a.2) then .inr () else .inl r):=by
 have:=jo (f:=f) (r:=r) (λa:c×d=>e a.1 a.2) (xs:=xs.zip ys) (n:=xs.length) (by simp[j]) λi a b=>by
  rw[List.getElem?_zip_eq_some]at b
  exact h i a.1 a.2 b.1 b.2
 exact this
theorem oU {b:Type} [DecidableEq b]:∀{xs ys:List b},xs.length=ys.length->((xs.zip ys).all λa=>decide (a.1=a.2))=decide (xs=ys)
 | [],[],_=>rfl
 | [],_::_,h=>by cases h
 |_::_,[],h=>by cases h
 |x::xs,y::ys,h=>by
  have c:=oU (xs:=xs) (ys:=ys) (by simpa using h)
  simp only[List.zip_cons_cons,List.all_cons,c,List.cons.injEq,Bool.decide_and]
theorem xp {a:Type}{xs ys:List a}:((xs.length:Int) !=(ys.length:Int))= !(decide (xs.length=ys.length)):=by
 rw[bne]
 congr 1
 by_cases h:xs.length=ys.length
 .simp[h]
 .have:¬((xs.length:Int)=(ys.length:Int)):=by omega
  simp[h,this]
end Go.Wk
