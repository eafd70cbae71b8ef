/- Plain laws on data: loops, indexes, the sizes. No program in sight. -/
import Derived.Test.YtleekpaohfpooaaGreatFbKE
set_option linter.unusedVariables false
set_option linter.unusedSimpArgs false
open Option renaming bind → bC
namespace Go.Wk
open Go
theorem wr {z:Int}(h:I64 z):IntKind.i64.wrap z=z:=by
 unfold I64 at h
 rw[IntKind.wrap_i64];omega
theorem wr' {z:Int}(h0: -9223372036854775808<=z) (h1:z<=9223372036854775807):IntKind.i64.wrap z=z:=wr ⟨h0,h1⟩
theorem bH {α:Type}(xs:List α) (i:Nat):idx xs (i:Int)=xs[i]?:=by simp[idx]
theorem cE {α:Type}{xs:List α}{z:Int}(h:0<=z):idx xs z=xs[z.toNat]?:=by simp[idx,h]
theorem rH {ρ σ:Type}{f:Int->σ->Option (ρ⊕(σ⊕σ))}(I:Nat->σ->Prop) (R:ρ->Prop) (B:σ->Prop) (N:Nat)
 (step:∀(j:Nat) s,j<N->I j s->∃o,f j s=some o/\(match o with
  | .inl r=>R r
  | .inr (.inl s')=>B s'
  | .inr (.inr s')=>I (j+1) s')):
 ∀(k j:Nat) (s:σ),j+k=N->I j s->∃o,cntM f k j s=some o/\(match o with
  | .inl r=>R r
  | .inr s'=>I N s'\/B s')
 | 0,j,s,hj,h=>⟨.inr s,rfl,.inl (by rw[← hj];exact h)⟩
 | k+1,j,s,hj,h=>by
  obtain⟨o,ho,hm⟩:=step j s (by omega) h
  show ∃o,bC (f j s) _=some o/\_
  rw[ho]
  match o,hm with
  | .inl r,hm=>exact⟨.inl r,rfl,hm⟩
  | .inr (.inl s'),hm=>exact⟨.inr s',rfl,.inr hm⟩
  | .inr (.inr s'),hm=>
   obtain⟨o',h1,h2⟩:=rH I R B N step k (j+1) s' (by omega) hm
   exact⟨o',h1,h2⟩
theorem bX {ρ σ:Type}{f:Int->σ->Option (ρ⊕(σ⊕σ))}(I:Nat->σ->Prop) (N:Nat){s:σ}(h0:I 0 s)
 (step:∀(j:Nat) s,j<N->I j s->∃s',f j s=some (.inr (.inr s'))/\I (j+1) s'):∃s',cntM f N 0 s=some (.inr s')/\I N s':=by
 obtain⟨o,h1,h2⟩:=rH I (λ_=>False) (λ_=>False) N (λj s hj hi=>by
  obtain⟨s',h3,h4⟩:=step j s hj hi
  exact⟨_,h3,h4⟩) N 0 s (by omega) h0
 match o,h2 with
 | .inr s',h2=>exact⟨s',h1,h2.resolve_right id⟩
theorem pB {ρ σ:Type}{f:Int->σ->Option (ρ⊕(σ⊕σ))}(I:Nat->σ->Prop) (R:ρ->Prop) (B:σ->Prop) (N:Nat){s:σ}
 (h:I 0 s) (step:∀(j:Nat) s,j<N->I j s->∃o,f j s=some o/\(match o with
  | .inl r=>R r
  | .inr (.inl s')=>B s'
  | .inr (.inr s')=>I (j+1) s')):
 ∃o,cntM f N 0 s=some o/\(match o with
  | .inl r=>R r
  | .inr s'=>I N s'\/B s'):=rH I R B N step N 0 s (by omega) h
theorem iz {ρ σ:Type}{f:σ->Option (ρ⊕(σ⊕σ))}{N:Nat}(h:0<N) (s:σ):ca f N s=bC (f s) (lpK (ca f (N-1))):=by
 obtain⟨k,rfl⟩:∃k,N=k+1:=⟨N-1,by omega⟩
 rfl
theorem ut {ρ α:Type}{f:Int->Unit->Option (ρ⊕(Unit⊕Unit))}{r:ρ}(g:α->Bool):∀(xs ys:List α) (j:Nat),(∀(i:Nat) x,xs[i]? =some x->f ((j+i:Nat):Int) ()=some (if g x then .inr (.inr ()) else .inl r)) ->
 cntM f xs.length j ()=some (if xs.all g then .inr () else .inl r)
 | [],_,_,_=>rfl
 | x::xs,ys,j,h=>by
  have h0:=h 0 x rfl
  show bC (f j ()) _=_
  rw[Nat.add_zero]at h0
  rw[h0]
  by_cases hg:g x=true
  · simp only[hg,if_true,Option.bind_some,nZ,List.all_cons,Bool.true_and]
    exact ut g xs ys (j+1) λi y hy=>by
     have:=h (i+1) y (by simpa using hy)
     rw[show j+1+i=j+(i+1) from by omega]
     exact this
  · simp[hg,lpK]
theorem cP {ρ α:Type}{f:Int->Unit->Option (ρ⊕(Unit⊕Unit))}{r:ρ}(g:α->Bool){xs:List α}{n:Nat}(hn:n=xs.length) (h:∀(i:Nat) x,xs[i]? =some x->f (i:Int) ()=some (if g x then .inr (.inr ()) else .inl r)):
 cntM f n 0 ()=some (if xs.all g then .inr () else .inl r):=by
 subst hn
 exact ut g xs xs 0 λi x hx=>by rw[Nat.zero_add];exact h i x hx
theorem sD {α:Type}{xs:List α}{i:Nat}{x:α}(h:i<xs.length):setI xs (i:Int) x=some (xs.set i x):=by
 unfold setI
 simp[h]
theorem di {α:Type}{bytes:Nat}{m:Nat}{z:α}(h:m<=1048576) (hb:Nat.ble bytes 1024=true):mkS bytes (m:Int) z=some (List.replicate m z):=by
 have hb:=Nat.ble_eq.mp hb
 unfold mkS
 have:bytes * m<=1024 * 1048576:=Nat.mul_le_mul hb h
 simp
 omega
theorem sB {ρ α:Type}{f:Int->Unit->Option (ρ⊕(Unit⊕Unit))}(g:α->Bool) (rr:Nat->ρ):∀(xs:List α) (j:Nat),(∀(i:Nat) x,xs[i]? =some x->f ((j+i:Nat):Int) ()=some (if g x then .inl (rr (j+i)) else .inr (.inr ()))) ->
 cntM f xs.length j ()=some (match xs.findIdx? g with | some i=> .inl (rr (j+i)) | none=> .inr ())
 | [],_,_=>rfl
 | x::xs,j,h=>by
  have h0:=h 0 x rfl
  show bC (f j ()) _=_
  rw[Nat.add_zero]at h0
  rw[h0,List.findIdx?_cons]
  by_cases hg:g x=true
  · simp[hg,lpK]
  · simp only[hg,Option.bind_some,nZ,Bool.false_eq_true,if_false]
    have ih:=sB g rr xs (j+1) λi y hy=>by
     have:=h (i+1) y (by simpa using hy)
     rw[show j+1+i=j+(i+1) from by omega]
     exact this
    have e:((j:Int)+1)=((j+1:Nat):Int):=by omega
    rw[e,ih]
    cases xs.findIdx? g with
    | none=>rfl
    | some i=>simp[show j+1+i=j+(i+1) from by omega]
theorem fU {ρ α:Type}{f:Int->Unit->Option (ρ⊕(Unit⊕Unit))}(g:α->Bool) (rr:Nat->ρ){xs:List α}(h:∀(i:Nat) x,xs[i]? =some x->f (i:Int) ()=some (if g x then .inl (rr i) else .inr (.inr ()))):
 cntM f xs.length 0 ()=some (match xs.findIdx? g with | some i=> .inl (rr i) | none=> .inr ()):=by
 have:=sB g rr xs 0 (f:=f) λi x hx=>by rw[Nat.zero_add];exact h i x hx
 simpa using this
theorem lQ {α:Type}(g:α->Bool) (xs:List α):decide ((0:Int)<=(match xs.findIdx? g with | some i=>(i:Int) | none=> -1))=xs.any g:=by
 cases h:xs.findIdx? g with
 | none=>
  rw[List.findIdx?_eq_none_iff]at h
  have:xs.any g=false:=by rw[List.any_eq_false];intro x hx;simp[h x hx]
  simp[this]
 | some i=>
  have h1:=List.findIdx?_isSome (p:=g) (xs:=xs)
  rw[h]at h1
  simp at h1
  have:xs.any g=true:=by rw[List.any_eq_true];exact h1
  rw[this]
  simp
theorem uB {ρ α β:Type}{f:Int->Unit->Option (ρ⊕(Unit⊕Unit))}{r:ρ}(e:α->β->Bool){xs:List α}{ys:List β}(hl:xs.length=ys.length)
 (h:∀(i:Nat) x y,xs[i]? =some x->ys[i]? =some y->f (i:Int) ()=some (if e x y then .inr (.inr ()) else .inl r)):
 cntM f xs.length 0 ()=some (if(xs.zip ys).all (λp=>e p.1 p.2) then .inr () else .inl r):=by
 have:=cP (f:=f) (r:=r) (λp:α×β=>e p.1 p.2) (xs:=xs.zip ys) (n:=xs.length) (by simp[hl]) λi p hp=>by
  rw[List.getElem?_zip_eq_some]at hp
  exact h i p.1 p.2 hp.1 hp.2
 exact this
theorem np {α:Type} [DecidableEq α]:∀{xs ys:List α},xs.length=ys.length->((xs.zip ys).all λp=>decide (p.1=p.2))=decide (xs=ys)
 | [],[],_=>rfl
 | [],_::_,h=>by cases h
 | _::_,[],h=>by cases h
 | x::xs,y::ys,h=>by
  have ih:=np (xs:=xs) (ys:=ys) (by simpa using h)
  simp only[List.zip_cons_cons,List.all_cons,ih,List.cons.injEq,Bool.decide_and]
theorem xF {α:Type}{xs ys:List α}:((xs.length:Int) !=(ys.length:Int))= !(decide (xs.length=ys.length)):=by
 rw[bne]
 congr 1
 by_cases h:xs.length=ys.length
 · simp[h]
 · have:¬((xs.length:Int)=(ys.length:Int)):=by omega
   simp[h,this]
end Go.Wk
