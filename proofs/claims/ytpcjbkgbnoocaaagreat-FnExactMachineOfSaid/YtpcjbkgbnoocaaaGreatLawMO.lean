/- Plain laws on data: loops, indexes, the sizes. No program in sight. -/
import Derived.Test.YtpcjbkgbnoocaaaGreatFbMO
set_option linter.unusedVariables false
set_option linter.unusedSimpArgs false
open Option renaming bind → bB, bind_some → ds
namespace Go.Wk
open Go
theorem wr {z:Int}(h:I64 z):IntKind.i64.wrap z=z:=by
 unfold I64 at h
 rw[IntKind.wrap_i64];omega
theorem wr' {z:Int}(h0: -9223372036854775808<=z) (h1:z<=9223372036854775807):IntKind.i64.wrap z=z:=wr ⟨h0,h1⟩
theorem bH {α:Type}(xs:List α) (i:Nat):idx xs (i:Int)=xs[i]?:=by simp[idx]
theorem cP {α:Type}{xs:List α}{z:Int}(h:0<=z):idx xs z=xs[z.toNat]?:=by simp[idx,h]
theorem qV {ρ σ:Type}{f:Int->σ->Option (ρ⊕(σ⊕σ))}(I:Nat->σ->Prop) (R:ρ->Prop) (B:σ->Prop) (N:Nat)
 (step:∀(j:Nat) s,j<N->I j s->∃o,f j s=some o/\(match o with
  | .inl r=>R r
  | .inr (.inl s')=>B s'
  | .inr (.inr s')=>I (j+1) s')):
 ∀(k j:Nat) (s:σ),j+k=N->I j s->∃o,cntM f k j s=some o/\(match o with
  | .inl r=>R r
  | .inr s'=>I N s'\/B s')
 | 0,j,s,hj,h=>⟨.inr s,rfl,.inl (by rw[← hj];exact h)⟩
 | k+1,j,s,hj,h=>by
  obtain⟨o,ho,hm⟩:=step j s (by omega) h
  show ∃o,bB (f j s) _=some o/\_
  rw[ho]
  match o,hm with
  | .inl r,hm=>exact⟨.inl r,rfl,hm⟩
  | .inr (.inl s'),hm=>exact⟨.inr s',rfl,.inr hm⟩
  | .inr (.inr s'),hm=>
   obtain⟨o',h1,h2⟩:=qV I R B N step k (j+1) s' (by omega) hm
   exact⟨o',h1,h2⟩
theorem cd {ρ σ:Type}{f:Int->σ->Option (ρ⊕(σ⊕σ))}(I:Nat->σ->Prop) (N:Nat){s:σ}(h0:I 0 s)
 (step:∀(j:Nat) s,j<N->I j s->∃s',f j s=some (.inr (.inr s'))/\I (j+1) s'):∃s',cntM f N 0 s=some (.inr s')/\I N s':=by
 obtain⟨o,h1,h2⟩:=qV I (λ_=>False) (λ_=>False) N (λj s hj hi=>by
  obtain⟨s',h3,h4⟩:=step j s hj hi
  exact⟨_,h3,h4⟩) N 0 s (by omega) h0
 match o,h2 with
 | .inr s',h2=>exact⟨s',h1,h2.resolve_right id⟩
theorem oX {ρ σ:Type}{f:Int->σ->Option (ρ⊕(σ⊕σ))}(I:Nat->σ->Prop) (R:ρ->Prop) (B:σ->Prop) (N:Nat){s:σ}
 (h:I 0 s) (step:∀(j:Nat) s,j<N->I j s->∃o,f j s=some o/\(match o with
  | .inl r=>R r
  | .inr (.inl s')=>B s'
  | .inr (.inr s')=>I (j+1) s')):
 ∃o,cntM f N 0 s=some o/\(match o with
  | .inl r=>R r
  | .inr s'=>I N s'\/B s'):=qV I R B N step N 0 s (by omega) h
theorem jS {ρ σ:Type}{f:σ->Option (ρ⊕(σ⊕σ))}{N:Nat}(h:0<N) (s:σ):bZ f N s=bB (f s) (lpK (bZ f (N-1))):=by
 obtain⟨k,rfl⟩:∃k,N=k+1:=⟨N-1,by omega⟩
 rfl
theorem tA {ρ α:Type}{f:Int->Unit->Option (ρ⊕(Unit⊕Unit))}{r:ρ}(g:α->Bool):∀(xs ys:List α) (j:Nat),(∀(i:Nat) x,xs[i]? =some x->f ((j+i:Nat):Int) ()=some (if g x then .inr (.inr ()) else .inl r)) ->
 cntM f xs.length j ()=some (if xs.all g then .inr () else .inl r)
 | [],_,_,_=>rfl
 | x::xs,ys,j,h=>by
  have h0:=h 0 x rfl
  show bB (f j ()) _=_
  rw[Nat.add_zero]at h0
  rw[h0]
  by_cases hg:g x=true
  · simp only[hg,if_true,ds,lc,List.all_cons,Bool.true_and]
    exact tA g xs ys (j+1) λi y hy=>by
     have:=h (i+1) y (by simpa using hy)
     rw[show j+1+i=j+(i+1) from by omega]
     exact this
  · simp[hg,lpK]
theorem cQ {ρ α:Type}{f:Int->Unit->Option (ρ⊕(Unit⊕Unit))}{r:ρ}(g:α->Bool){xs:List α}{n:Nat}(hn:n=xs.length) (h:∀(i:Nat) x,xs[i]? =some x->f (i:Int) ()=some (if g x then .inr (.inr ()) else .inl r)):
 cntM f n 0 ()=some (if xs.all g then .inr () else .inl r):=by
 subst hn
 exact tA g xs xs 0 λi x hx=>by rw[Nat.zero_add];exact h i x hx
theorem rj {ρ α β:Type}{f:Int->List β->Option (ρ⊕(List β⊕List β))}(g:α->β){xs:List α}{ys:List β}(hl:ys.length=xs.length)
 (h:∀(i:Nat) x (ys:List β),xs[i]? =some x->i<ys.length->f (i:Int) ys=some (.inr (.inr (ys.set i (g x))))):cntM f xs.length 0 ys=some (.inr (xs.map g)):=by
 obtain⟨s,h1,h2,h3⟩:=cd (f:=f) (λj s=>s.length=xs.length/\∀(i:Nat) x,i<j->xs[i]? =some x->s[i]? =some (g x)) xs.length (s:=ys) ⟨hl,λ_ _ h=>absurd h (Nat.not_lt_zero _)⟩ λj s hj ⟨h2,h3⟩=>by
  have hx:xs[j]? =some xs[j]:=by simp[hj]
  refine⟨_,h j _ s hx (by omega),by simpa using h2,λi x hi hx'=>?_⟩
  by_cases e:i=j
  · subst e
    rw[List.getElem?_set_self (by omega)]
    rw[hx]at hx';cases hx';rfl
  · rw[List.getElem?_set_ne (by omega)]
    exact h3 i x (by omega) hx'
 rw[h1]
 congr 2
 apply List.ext_getElem?
 intro i
 by_cases hi:i<xs.length
 · rw[h3 i xs[i] hi (by simp[hi])];simp[hi]
 · rw[List.getElem?_eq_none (by omega),List.getElem?_eq_none (by simp;omega)]
theorem kO {α:Type}{xs:List α}{i:Nat}{x:α}(h:i<xs.length):setI xs (i:Int) x=some (xs.set i x):=by
 unfold setI
 simp[h]
theorem cY {α:Type}{bytes:Nat}{m:Nat}{z:α}(h:m<=1048576) (hb:Nat.ble bytes 1024=true):mkS bytes (m:Int) z=some (List.replicate m z):=by
 have hb:=Nat.ble_eq.mp hb
 unfold mkS
 have:bytes * m<=1024 * 1048576:=Nat.mul_le_mul hb h
 simp
 omega
theorem ss {ρ α:Type}{f:Int->Unit->Option (ρ⊕(Unit⊕Unit))}(g:α->Bool) (rr:Nat->ρ):∀(xs:List α) (j:Nat),(∀(i:Nat) x,xs[i]? =some x->f ((j+i:Nat):Int) ()=some (if g x then .inl (rr (j+i)) else .inr (.inr ()))) ->
 cntM f xs.length j ()=some (match xs.findIdx? g with | some i=> .inl (rr (j+i)) | none=> .inr ())
 | [],_,_=>rfl
 | x::xs,j,h=>by
  have h0:=h 0 x rfl
  show bB (f j ()) _=_
  rw[Nat.add_zero]at h0
  rw[h0,List.findIdx?_cons]
  by_cases hg:g x=true
  · simp[hg,lpK]
  · simp only[hg,ds,lc,Bool.false_eq_true,if_false]
    have ih:=ss g rr xs (j+1) λi y hy=>by
     have:=h (i+1) y (by simpa using hy)
     rw[show j+1+i=j+(i+1) from by omega]
     exact this
    have e:((j:Int)+1)=((j+1:Nat):Int):=by omega
    rw[e,ih]
    cases xs.findIdx? g with
    | none=>rfl
    | some i=>simp[show j+1+i=j+(i+1) from by omega]
theorem fC {ρ α:Type}{f:Int->Unit->Option (ρ⊕(Unit⊕Unit))}(g:α->Bool) (rr:Nat->ρ){xs:List α}(h:∀(i:Nat) x,xs[i]? =some x->f (i:Int) ()=some (if g x then .inl (rr i) else .inr (.inr ()))):
 cntM f xs.length 0 ()=some (match xs.findIdx? g with | some i=> .inl (rr i) | none=> .inr ()):=by
 have:=ss g rr xs 0 (f:=f) λi x hx=>by rw[Nat.zero_add];exact h i x hx
 simpa using this
theorem mb {α:Type}(g:α->Bool) (xs:List α):decide ((0:Int)<=(match xs.findIdx? g with | some i=>(i:Int) | none=> -1))=xs.any g:=by
 cases h:xs.findIdx? g with
 | none=>
  rw[List.findIdx?_eq_none_iff]at h
  have:xs.any g=false:=by rw[List.any_eq_false];intro x hx;simp[h x hx]
  simp[this]
 | some i=>
  have h1:=List.findIdx?_isSome (p:=g) (xs:=xs)
  rw[h]at h1
  simp at h1
  have:xs.any g=true:=by rw[List.any_eq_true];exact h1
  rw[this]
  simp
theorem tI {ρ α β:Type}{f:Int->Unit->Option (ρ⊕(Unit⊕Unit))}{r:ρ}(e:α->β->Bool){xs:List α}{ys:List β}(hl:xs.length=ys.length)
 (h:∀(i:Nat) x y,xs[i]? =some x->ys[i]? =some y->f (i:Int) ()=some (if e x y then .inr (.inr ()) else .inl r)):
 cntM f xs.length 0 ()=some (if(xs.zip ys).all (λp=>e p.1 p.2) then .inr () else .inl r):=by
 have:=cQ (f:=f) (r:=r) (λp:α×β=>e p.1 p.2) (xs:=xs.zip ys) (n:=xs.length) (by simp[hl]) λi p hp=>by
  rw[List.getElem?_zip_eq_some]at hp
  exact h i p.1 p.2 hp.1 hp.2
 exact this
theorem mL {α:Type} [DecidableEq α]:∀{xs ys:List α},xs.length=ys.length->((xs.zip ys).all λp=>decide (p.1=p.2))=decide (xs=ys)
 | [],[],_=>rfl
 | [],_::_,h=>by cases h
 | _::_,[],h=>by cases h
 | x::xs,y::ys,h=>by
  have ih:=mL (xs:=xs) (ys:=ys) (by simpa using h)
  simp only[List.zip_cons_cons,List.all_cons,ih,List.cons.injEq,Bool.decide_and]
theorem wv {α:Type}{xs ys:List α}:((xs.length:Int) !=(ys.length:Int))= !(decide (xs.length=ys.length)):=by
 rw[bne]
 congr 1
 by_cases h:xs.length=ys.length
 · simp[h]
 · have:¬((xs.length:Int)=(ys.length:Int)):=by omega
   simp[h,this]
theorem dlt {z:Int}(h:0<=z):decide (z<0)=false:=decide_eq_false (by omega)
def ctL {α:Type}(c:α->Nat):List α->Nat
 | []=>0
 | x::r=>c x+ctL c r
def mkL {α:Type}(c:α->Nat) (m:Int->α->α):Int->List α->List α
 | _,[]=>[]
 | k,x::r=>m k x::mkL c m (k+c x) r
theorem sb {ρ α:Type}{f:Int->Int×List α->Option (ρ⊕((Int×List α)⊕(Int×List α)))}(c:α->Nat) (m:Int->α->α) (B:Int)
 (hf:∀(i:Nat) x k ys,ys[i]? =some x->0<=k->k+c x<=B->f (i:Int) (k,ys)=some (.inr (.inr (k+c x,ys.set i (m k x))))):
 ∀(xs pre:List α) (k:Int),0<=k->k+ctL c xs<=B->cntM f xs.length pre.length (k,pre++xs)=some (.inr (k+ctL c xs,pre++mkL c m k xs))
 | [],pre,k,_,_=>by simp[cntM,ctL,mkL]
 | x::r,pre,k,h0,hB=>by
  have hc:k+c x<=B:=by simp only[ctL]at hB;omega
  have h1:=hf pre.length x k (pre++x::r) (by simp) h0 hc
  show bB (f pre.length (k,pre++x::r)) _=_
  rw[h1,ds,lc]
  have e1:(pre++x::r).set pre.length (m k x)=(pre++[m k x])++r:=by
   rw[List.set_append_right _ _ (Nat.le_refl _)]
   simp
  have ih:=sb c m B hf r (pre++[m k x]) (k+c x) (by omega) (by simp only[ctL]at hB;omega)
  rw[e1]
  have e2:((pre.length:Int)+1)=((pre++[m k x]).length:Int):=by simp
  rw[e2,ih]
  simp[ctL,mkL,Int.add_assoc]
theorem nR {ρ α:Type}{f:Int->Int×List α->Option (ρ⊕((Int×List α)⊕(Int×List α)))}(c:α->Nat) (m:Int->α->α) (B:Int)
 (hf:∀(i:Nat) x k ys,ys[i]? =some x->0<=k->k+c x<=B->f (i:Int) (k,ys)=some (.inr (.inr (k+c x,ys.set i (m k x))))) {xs:List α} {k:Int} (h0:0<=k) (hB:k+ctL c xs<=B):
 cntM f xs.length 0 (k,xs)=some (.inr (k+ctL c xs,mkL c m k xs)):=sb c m B hf xs [] k h0 hB
theorem rR {ρ α:Type}{f:Int->Int->Option (ρ⊕(Int⊕Int))}(c:α->Nat) (m:Int->α->α) (B:Int) (zs:List α)
 (hf:∀(i:Nat) x k,zs[i]? =some (m k x)->0<=k->k+c x<=B->f (i:Int) k=some (.inr (.inr (k+c x)))):
 ∀(xs pre:List α) (k:Int),zs=pre++mkL c m k xs->0<=k->k+ctL c xs<=B->cntM f xs.length pre.length k=some (.inr (k+ctL c xs))
 | [],pre,k,_,_,_=>by simp[cntM,ctL]
 | x::r,pre,k,hz,h0,hB=>by
  have hc:k+c x<=B:=by simp only[ctL]at hB;omega
  have h1:=hf pre.length x k (by rw[hz];simp[mkL]) h0 hc
  show bB (f pre.length k) _=_
  rw[h1,ds,lc]
  have ih:=rR c m B zs hf r (pre++[m k x]) (k+c x) (by rw[hz];simp[mkL]) (by omega) (by simp only[ctL]at hB;omega)
  have e2:((pre.length:Int)+1)=((pre++[m k x]).length:Int):=by simp
  rw[e2,ih]
  simp[ctL,Int.add_assoc]
theorem oV {α:Type}(c:α->Nat) (m:Int->α->α):∀(xs:List α) (k:Int),(mkL c m k xs).length=xs.length
 | [],_=>rfl
 | x::r,k=>by simp[mkL,oV c m r]
theorem qr {ρ α:Type}{f:Int->Int->Option (ρ⊕(Int⊕Int))}(c:α->Nat) (m:Int->α->α) (B:Int){xs:List α}{k:Int}
 (hf:∀(i:Nat) x k',(mkL c m k xs)[i]? =some (m k' x)->0<=k'->k'+c x<=B->f (i:Int) k'=some (.inr (.inr (k'+c x)))) (h0:0<=k) (hB:k+ctL c xs<=B):
 cntM f (mkL c m k xs).length 0 k=some (.inr (k+ctL c xs)):=by
 rw[oV]
 exact rR c m B (mkL c m k xs) hf xs [] k rfl h0 hB
theorem pB {α:Type}{c:α->Nat}{N M:Nat}:∀{xs:List α},xs.length<=N->(∀x∈xs,c x<=M)->ctL c xs<=N * M:=λ{xs} hl h=>by
 have h1:ctL c xs<=xs.length * M:=by
  clear hl
  induction xs with
  | nil=>simp[ctL]
  | cons x r ih=>
   have h2:=ih λy hy=>h y (List.mem_cons_of_mem _ hy)
   have h3:=h x (List.mem_cons_self ..)
   simp only[ctL,List.length_cons,Nat.add_mul,Nat.one_mul]
   omega
 exact Nat.le_trans h1 (Nat.mul_le_mul_right _ hl)
theorem qH {α:Type}:∀xs:List α,ctL (λ_=>1) xs=xs.length
 | []=>rfl
 | x::r=>by simp[ctL,qH r];omega
end Go.Wk
