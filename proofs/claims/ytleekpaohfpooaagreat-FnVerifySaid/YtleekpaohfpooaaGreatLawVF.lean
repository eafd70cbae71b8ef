/- Plain laws on data: loops, indexes, the sizes. No program in sight. -/
import Derived.Test.YtleekpaohfpooaaGreatFbVF
set_option linter.unusedVariables false
set_option linter.unusedSimpArgs false
open Option renaming bind → bD
namespace Go.Wk
open Go
theorem wr {z:Int}(h:I64 z):IntKind.i64.wrap z=z:=by
 unfold I64 at h
 rw[IntKind.wrap_i64];omega
theorem wr' {z:Int}(h0: -9223372036854775808<=z) (h1:z<=9223372036854775807):IntKind.i64.wrap z=z:=wr ⟨h0,h1⟩
theorem bT {α:Type}(xs:List α) (i:Nat):idx xs (i:Int)=xs[i]?:=by simp[idx]
theorem cY {α:Type}{xs:List α}{z:Int}(h:0<=z):idx xs z=xs[z.toNat]?:=by simp[idx,h]
theorem rP {d b:Type}{f:Int->b->Option (d⊕(b⊕b))}(I:Nat->b->Prop) (R:d->Prop) (B:b->Prop) (N:Nat)
 (c:∀(j:Nat) s,j<N->I j s->∃o,f j s=some o/\(match o with
  | .inl r=>R r
  | .inr (.inl a)=>B a
  | .inr (.inr a)=>I (j+1) a)):
 ∀(k j:Nat) (s:b),j+k=N->I j s->∃o,cntM f k j s=some o/\(match o with
  | .inl r=>R r
  | .inr a=>I N a\/B a)
 | 0,j,s,hj,h=>⟨.inr s,rfl,.inl (by rw[← hj];exact h)⟩
 | k+1,j,s,hj,h=>by
  obtain⟨o,g,hm⟩:=c j s (by omega) h
  show ∃o,bD (f j s) _=some o/\_
  rw[g]
  match o,hm with
  | .inl r,hm=>exact⟨.inl r,rfl,hm⟩
  | .inr (.inl a),hm=>exact⟨.inr a,rfl,.inr hm⟩
  | .inr (.inr a),hm=>
   obtain⟨i,h1,e⟩:=rP I R B N c k (j+1) a (by omega) hm
   exact⟨i,h1,e⟩
theorem cJ {k b:Type}{f:Int->b->Option (k⊕(b⊕b))}(I:Nat->b->Prop) (N:Nat){s:b}(h0:I 0 s)
 (i:∀(j:Nat) s,j<N->I j s->∃a,f j s=some (.inr (.inr a))/\I (j+1) a):∃a,cntM f N 0 s=some (.inr a)/\I N a:=by
 obtain⟨o,h1,c⟩:=rP I (λ_=>False) (λ_=>False) N (λj s hj g=>by
  obtain⟨a,d,e⟩:=i j s hj g
  exact⟨_,d,e⟩) N 0 s (by omega) h0
 match o,c with
 | .inr a,c=>exact⟨a,h1,c.resolve_right id⟩
theorem wC {c b:Type}{f:Int->b->Option (c⊕(b⊕b))}(I:Nat->b->Prop) (R:c->Prop) (B:b->Prop) (N:Nat){s:b}
 (h:I 0 s) (d:∀(j:Nat) s,j<N->I j s->∃o,f j s=some o/\(match o with
  | .inl r=>R r
  | .inr (.inl a)=>B a
  | .inr (.inr a)=>I (j+1) a)):
 ∃o,cntM f N 0 s=some o/\(match o with
  | .inl r=>R r
  | .inr a=>I N a\/B a):=rP I R B N d N 0 s (by omega) h
theorem jQ {b a:Type}{f:a->Option (b⊕(a⊕a))}{N:Nat}(h:0<N) (s:a):cu f N s=bD (f s) (lpK (cu f (N-1))):=by
 obtain⟨k,rfl⟩:∃k,N=k+1:=⟨N-1,by omega⟩
 rfl
theorem uW {b α:Type}{f:Int->Unit->Option (b⊕(Unit⊕Unit))}{r:b}(g:α->Bool):∀(xs ys:List α) (j:Nat),(∀(i:Nat) x,xs[i]? =some x->f ((j+i:Nat):Int) ()=some (if g x then .inr (.inr ()) else .inl r)) ->
 cntM f xs.length j ()=some (if xs.all g then .inr () else .inl r)
 | [],_,_,_=>rfl
 | x::xs,ys,j,h=>by
  have h0:=h 0 x rfl
  show bD (f j ()) _=_
  rw[Nat.add_zero]at h0
  rw[h0]
  by_cases a:g x=true
  · simp only[a,if_true,Option.bind_some,oz,List.all_cons,Bool.true_and]
    exact uW g xs ys (j+1) λi y hy=>by
     have:=h (i+1) y (by simpa using hy)
     rw[show j+1+i=j+(i+1) from by omega]
     exact this
  · simp[a,lpK]
theorem dt {a α:Type}{f:Int->Unit->Option (a⊕(Unit⊕Unit))}{r:a}(g:α->Bool){xs:List α}{n:Nat}(hn:n=xs.length) (h:∀(i:Nat) x,xs[i]? =some x->f (i:Int) ()=some (if g x then .inr (.inr ()) else .inl r)):
 cntM f n 0 ()=some (if xs.all g then .inr () else .inl r):=by
 subst hn
 exact uW g xs xs 0 λi x hx=>by rw[Nat.zero_add];exact h i x hx
theorem wz {c a α:Type}{f:Int->a->Option (c⊕(a⊕a))}(g:a->α->a){xs:List α}(h:∀(i:Nat) x s,xs[i]? =some x->f (i:Int) s=some (.inr (.inr (g s x)))) (s:a):
 cntM f xs.length 0 s=some (.inr (xs.foldl g s)):=by
 obtain⟨d,h1,b⟩:=cJ (f:=f) (λj t=>t=(xs.take j).foldl g s) xs.length (s:=s) (by simp) λj t hj ht=>by
  have hx:xs[j]? =some xs[j]:=by simp[hj]
  refine⟨_,h j _ t hx,?_⟩
  rw[List.take_add_one,hx,List.foldl_append,← ht]
  rfl
 rw[h1,b,List.take_length]
theorem xk {α:Type}{xs:List α}{i:Nat}{x:α}(h:i<xs.length):setI xs (i:Int) x=some (xs.set i x):=by
 unfold setI
 simp[h]
theorem gh {α:Type}{a:Nat}{m:Nat}{z:α}(h:m<=1048576) (hb:Nat.ble a 1024=true):mkS a (m:Int) z=some (List.replicate m z):=by
 have hb:=Nat.ble_eq.mp hb
 unfold mkS
 have:a * m<=1024 * 1048576:=Nat.mul_le_mul hb h
 simp
 omega
theorem ta {c α:Type}{f:Int->Unit->Option (c⊕(Unit⊕Unit))}(g:α->Bool) (a:Nat->c):∀(xs:List α) (j:Nat),(∀(i:Nat) x,xs[i]? =some x->f ((j+i:Nat):Int) ()=some (if g x then .inl (a (j+i)) else .inr (.inr ()))) ->
 cntM f xs.length j ()=some (match xs.findIdx? g with | some i=> .inl (a (j+i)) | none=> .inr ())
 | [],_,_=>rfl
 | x::xs,j,h=>by
  have h0:=h 0 x rfl
  show bD (f j ()) _=_
  rw[Nat.add_zero]at h0
  rw[h0,List.findIdx?_cons]
  by_cases b:g x=true
  · simp[b,lpK]
  · simp only[b,Option.bind_some,oz,Bool.false_eq_true,if_false]
    have d:=ta g a xs (j+1) λi y hy=>by
     have:=h (i+1) y (by simpa using hy)
     rw[show j+1+i=j+(i+1) from by omega]
     exact this
    have e:((j:Int)+1)=((j+1:Nat):Int):=by omega
    rw[e,d]
    cases xs.findIdx? g with
    | none=>rfl
    | some i=>simp[show j+1+i=j+(i+1) from by omega]
theorem ee {b α:Type}{f:Int->Unit->Option (b⊕(Unit⊕Unit))}(g:α->Bool) (a:Nat->b){xs:List α}(h:∀(i:Nat) x,xs[i]? =some x->f (i:Int) ()=some (if g x then .inl (a i) else .inr (.inr ()))):
 cntM f xs.length 0 ()=some (match xs.findIdx? g with | some i=> .inl (a i) | none=> .inr ()):=by
 have:=ta g a xs 0 (f:=f) λi x hx=>by rw[Nat.zero_add];exact h i x hx
 simpa using this
theorem iO {α:Type}(g:α->Bool) (xs:List α):decide ((0:Int)<=(match xs.findIdx? g with | some i=>(i:Int) | none=> -1))=xs.any g:=by
 cases h:xs.findIdx? g with
 | none=>
  rw[List.findIdx?_eq_none_iff]at h
  have:xs.any g=false:=by rw[List.any_eq_false];intro x hx;simp[h x hx]
  simp[this]
 | some i=>
  have h1:=List.findIdx?_isSome (p:=g) (xs:=xs)
  rw[h]at h1
  simp at h1
  have:xs.any g=true:=by rw[List.any_eq_true];exact h1
  rw[this]
  simp
theorem xE {a α β:Type}{f:Int->Unit->Option (a⊕(Unit⊕Unit))}{r:a}(e:α->β->Bool){xs:List α}{ys:List β}(hl:xs.length=ys.length)
 (h:∀(i:Nat) x y,xs[i]? =some x->ys[i]? =some y->f (i:Int) ()=some (if e x y then .inr (.inr ()) else .inl r)):
 cntM f xs.length 0 ()=some (if(xs.zip ys).all (λp=>e p.1 p.2) then .inr () else .inl r):=by
 have:=dt (f:=f) (r:=r) (λp:α×β=>e p.1 p.2) (xs:=xs.zip ys) (n:=xs.length) (by simp[hl]) λi p hp=>by
  rw[List.getElem?_zip_eq_some]at hp
  exact h i p.1 p.2 hp.1 hp.2
 exact this
theorem qE {α:Type} [DecidableEq α]:∀{xs ys:List α},xs.length=ys.length->((xs.zip ys).all λp=>decide (p.1=p.2))=decide (xs=ys)
 | [],[],_=>rfl
 | [],_::_,h=>by cases h
 | _::_,[],h=>by cases h
 | x::xs,y::ys,h=>by
  have a:=qE (xs:=xs) (ys:=ys) (by simpa using h)
  simp only[List.zip_cons_cons,List.all_cons,a,List.cons.injEq,Bool.decide_and]
end Go.Wk
