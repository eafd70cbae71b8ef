/- Plain laws on data: loops, indexes, the sizes. No program in sight. -/
import Derived.Test.YtleekpaohfpooaaGreatFbFW
set_option linter.unusedVariables false
set_option linter.unusedSimpArgs false
open Option renaming bind → bH
namespace Go.Wk
open Go
theorem wr {z:Int}(h:I64 z):IntKind.i64.wrap z=z:=by
 unfold I64 at h
 rw[IntKind.wrap_i64];omega
theorem wr' {z:Int}(h0: -9223372036854775808<=z) (h1:z<=9223372036854775807):IntKind.i64.wrap z=z:=wr ⟨h0,h1⟩
theorem bS {α:Type}(xs:List α) (i:Nat):idx xs (i:Int)=xs[i]?:=by simp[idx]
theorem cz {α:Type}{xs:List α}{z:Int}(h:0<=z):idx xs z=xs[z.toNat]?:=by simp[idx,h]
theorem ru {d b:Type}{f:Int->b->Option (d⊕(b⊕b))}(I:Nat->b->Prop) (R:d->Prop) (B:b->Prop) (N:Nat)
 (c:∀(j:Nat) s,j<N->I j s->∃o,f j s=some o/\(match o with
  | .inl r=>R r
  | .inr (.inl a)=>B a
  | .inr (.inr a)=>I (j+1) a)):
 ∀(k j:Nat) (s:b),j+k=N->I j s->∃o,cntM f k j s=some o/\(match o with
  | .inl r=>R r
  | .inr a=>I N a\/B a)
 | 0,j,s,hj,h=>⟨.inr s,rfl,.inl (by rw[← hj];exact h)⟩
 | k+1,j,s,hj,h=>by
  obtain⟨o,e,hm⟩:=c j s (by omega) h
  show ∃o,bH (f j s) _=some o/\_
  rw[e]
  match o,hm with
  | .inl r,hm=>exact⟨.inl r,rfl,hm⟩
  | .inr (.inl a),hm=>exact⟨.inr a,rfl,.inr hm⟩
  | .inr (.inr a),hm=>
   obtain⟨g,h1,h2⟩:=ru I R B N c k (j+1) a (by omega) hm
   exact⟨g,h1,h2⟩
theorem cv {i b:Type}{f:Int->b->Option (i⊕(b⊕b))}(I:Nat->b->Prop) (N:Nat){s:b}(h0:I 0 s)
 (g:∀(j:Nat) s,j<N->I j s->∃a,f j s=some (.inr (.inr a))/\I (j+1) a):∃a,cntM f N 0 s=some (.inr a)/\I N a:=by
 obtain⟨o,h1,h2⟩:=ru I (λ_=>False) (λ_=>False) N (λj s hj e=>by
  obtain⟨a,c,d⟩:=g j s hj e
  exact⟨_,c,d⟩) N 0 s (by omega) h0
 match o,h2 with
 | .inr a,h2=>exact⟨a,h1,h2.resolve_right id⟩
theorem ws {c b:Type}{f:Int->b->Option (c⊕(b⊕b))}(I:Nat->b->Prop) (R:c->Prop) (B:b->Prop) (N:Nat){s:b}
 (h:I 0 s) (d:∀(j:Nat) s,j<N->I j s->∃o,f j s=some o/\(match o with
  | .inl r=>R r
  | .inr (.inl a)=>B a
  | .inr (.inr a)=>I (j+1) a)):
 ∃o,cntM f N 0 s=some o/\(match o with
  | .inl r=>R r
  | .inr a=>I N a\/B a):=ru I R B N d N 0 s (by omega) h
theorem gQ {b a:Type}{f:a->Option (b⊕(a⊕a))}{N:Nat}(h:0<N) (s:a):bU f N s=bH (f s) (lpK (bU f (N-1))):=by
 obtain⟨k,rfl⟩:∃k,N=k+1:=⟨N-1,by omega⟩
 rfl
theorem uN {b α:Type}{f:Int->Unit->Option (b⊕(Unit⊕Unit))}{r:b}(g:α->Bool):∀(xs ys:List α) (j:Nat),(∀(i:Nat) x,xs[i]? =some x->f ((j+i:Nat):Int) ()=some (if g x then .inr (.inr ()) else .inl r)) ->
 cntM f xs.length j ()=some (if xs.all g then .inr () else .inl r)
 | [],_,_,_=>rfl
 | x::xs,ys,j,h=>by
  have h0:=h 0 x rfl
  show bH (f j ()) _=_
  rw[Nat.add_zero]at h0
  rw[h0]
  by_cases a:g x=true
  · simp only[a,if_true,Option.bind_some,kE,List.all_cons,Bool.true_and]
    exact uN g xs ys (j+1) λi y hy=>by
     have:=h (i+1) y (by simpa using hy)
     rw[show j+1+i=j+(i+1) from by omega]
     exact this
  · simp[a,lpK]
theorem eN {a α:Type}{f:Int->Unit->Option (a⊕(Unit⊕Unit))}{r:a}(g:α->Bool){xs:List α}{n:Nat}(hn:n=xs.length) (h:∀(i:Nat) x,xs[i]? =some x->f (i:Int) ()=some (if g x then .inr (.inr ()) else .inl r)):
 cntM f n 0 ()=some (if xs.all g then .inr () else .inl r):=by
 subst hn
 exact uN g xs xs 0 λi x hx=>by rw[Nat.zero_add];exact h i x hx
theorem qc {α:Type}{xs:List α}{i:Nat}{x:α}(h:i<xs.length):setI xs (i:Int) x=some (xs.set i x):=by
 unfold setI
 simp[h]
theorem dD {α:Type}{a:Nat}{m:Nat}{z:α}(h:m<=1048576) (hb:Nat.ble a 1024=true):mkS a (m:Int) z=some (List.replicate m z):=by
 have hb:=Nat.ble_eq.mp hb
 unfold mkS
 have:a * m<=1024 * 1048576:=Nat.mul_le_mul hb h
 simp
 omega
theorem sG {c α:Type}{f:Int->Unit->Option (c⊕(Unit⊕Unit))}(g:α->Bool) (a:Nat->c):∀(xs:List α) (j:Nat),(∀(i:Nat) x,xs[i]? =some x->f ((j+i:Nat):Int) ()=some (if g x then .inl (a (j+i)) else .inr (.inr ()))) ->
 cntM f xs.length j ()=some (match xs.findIdx? g with | some i=> .inl (a (j+i)) | none=> .inr ())
 | [],_,_=>rfl
 | x::xs,j,h=>by
  have h0:=h 0 x rfl
  show bH (f j ()) _=_
  rw[Nat.add_zero]at h0
  rw[h0,List.findIdx?_cons]
  by_cases b:g x=true
  · simp[b,lpK]
  · simp only[b,Option.bind_some,kE,Bool.false_eq_true,if_false]
    have d:=sG g a xs (j+1) λi y hy=>by
     have:=h (i+1) y (by simpa using hy)
     rw[show j+1+i=j+(i+1) from by omega]
     exact this
    have e:((j:Int)+1)=((j+1:Nat):Int):=by omega
    rw[e,d]
    cases xs.findIdx? g with
    | none=>rfl
    | some i=>simp[show j+1+i=j+(i+1) from by omega]
theorem gU {b α:Type}{f:Int->Unit->Option (b⊕(Unit⊕Unit))}(g:α->Bool) (a:Nat->b){xs:List α}(h:∀(i:Nat) x,xs[i]? =some x->f (i:Int) ()=some (if g x then .inl (a i) else .inr (.inr ()))):
 cntM f xs.length 0 ()=some (match xs.findIdx? g with | some i=> .inl (a i) | none=> .inr ()):=by
 have:=sG g a xs 0 (f:=f) λi x hx=>by rw[Nat.zero_add];exact h i x hx
 simpa using this
theorem mc {α:Type}(g:α->Bool) (xs:List α):decide ((0:Int)<=(match xs.findIdx? g with | some i=>(i:Int) | none=> -1))=xs.any g:=by
 cases h:xs.findIdx? g with
 | none=>
  rw[List.findIdx?_eq_none_iff]at h
  have:xs.any g=false:=by rw[List.any_eq_false];intro x hx;simp[h x hx]
  simp[this]
 | some i=>
  have h1:=List.findIdx?_isSome (p:=g) (xs:=xs)
  rw[h]at h1
  simp at h1
  have:xs.any g=true:=by rw[List.any_eq_true];exact h1
  rw[this]
  simp
theorem rv {a α β:Type}{f:Int->Unit->Option (a⊕(Unit⊕Unit))}{r:a}(e:α->β->Bool){xs:List α}{ys:List β}(hl:xs.length=ys.length)
 (h:∀(i:Nat) x y,xs[i]? =some x->ys[i]? =some y->f (i:Int) ()=some (if e x y then .inr (.inr ()) else .inl r)):
 cntM f xs.length 0 ()=some (if(xs.zip ys).all (λp=>e p.1 p.2) then .inr () else .inl r):=by
 have:=eN (f:=f) (r:=r) (λp:α×β=>e p.1 p.2) (xs:=xs.zip ys) (n:=xs.length) (by simp[hl]) λi p hp=>by
  rw[List.getElem?_zip_eq_some]at hp
  exact h i p.1 p.2 hp.1 hp.2
 exact this
theorem lY {α:Type} [DecidableEq α]:∀{xs ys:List α},xs.length=ys.length->((xs.zip ys).all λp=>decide (p.1=p.2))=decide (xs=ys)
 | [],[],_=>rfl
 | [],_::_,h=>by cases h
 | _::_,[],h=>by cases h
 | x::xs,y::ys,h=>by
  have a:=lY (xs:=xs) (ys:=ys) (by simpa using h)
  simp only[List.zip_cons_cons,List.all_cons,a,List.cons.injEq,Bool.decide_and]
theorem wI {α:Type}{xs ys:List α}:((xs.length:Int) !=(ys.length:Int))= !(decide (xs.length=ys.length)):=by
 rw[bne]
 congr 1
 by_cases h:xs.length=ys.length
 · simp[h]
 · have:¬((xs.length:Int)=(ys.length:Int)):=by omega
   simp[h,this]
end Go.Wk
