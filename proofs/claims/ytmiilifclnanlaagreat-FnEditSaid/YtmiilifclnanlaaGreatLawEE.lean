/- Plain laws on data: loops, indexes, the sizes. No program in sight. -/
import Derived.Test.YtmiilifclnanlaaGreatFbEE
set_option linter.unusedVariables false
set_option linter.unusedSimpArgs false
namespace Go.Wk
open Go
theorem wr {z:Int}(h:I64 z):IntKind.i64.wrap z=z:=by
 unfold I64 at h
 rw[IntKind.wrap_i64];omega
theorem wr' {z:Int}(h0: -9223372036854775808≤z) (h1:z≤9223372036854775807):IntKind.i64.wrap z=z:=wr ⟨h0,h1⟩
theorem idx_nat {α:Type}(xs:List α) (i:Nat):idx xs (i:Int)=xs[i]?:=by simp[idx]
theorem idx_int {α:Type}{xs:List α}{z:Int}(h:0≤z):idx xs z=xs[z.toNat]?:=by simp[idx,h]
theorem cnt_out {ρ σ:Type}{f:Int→σ→Option (ρ⊕(σ⊕σ))}(I:Nat→σ→Prop) (R:ρ→Prop) (B:σ→Prop) (N:Nat)
 (step:∀(j:Nat) s,j<N→I j s→∃o,f j s=some o∧(match o with
  | .inl r=>R r
  | .inr (.inl s')=>B s'
  | .inr (.inr s')=>I (j+1) s')):
 ∀(k j:Nat) (s:σ),j+k=N→I j s→∃o,cntM f k j s=some o∧(match o with
  | .inl r=>R r
  | .inr s'=>I N s'∨B s')
 | 0,j,s,hj,h=>⟨.inr s,rfl,.inl (by rw[← hj];exact h)⟩
 | k+1,j,s,hj,h=>by
  obtain⟨o,ho,hm⟩:=step j s (by omega) h
  show ∃o,Option.bind (f j s) _=some o∧_
  rw[ho]
  match o,hm with
  | .inl r,hm=>exact⟨.inl r,rfl,hm⟩
  | .inr (.inl s'),hm=>exact⟨.inr s',rfl,.inr hm⟩
  | .inr (.inr s'),hm=>
   obtain⟨o',h1,h2⟩:=cnt_out I R B N step k (j+1) s' (by omega) hm
   exact⟨o',h1,h2⟩
theorem cnt_inv {ρ σ:Type}{f:Int→σ→Option (ρ⊕(σ⊕σ))}(I:Nat→σ→Prop) (N:Nat){s:σ}(h0:I 0 s)
 (step:∀(j:Nat) s,j<N→I j s→∃s',f j s=some (.inr (.inr s'))∧I (j+1) s'):∃s',cntM f N 0 s=some (.inr s')∧I N s':=by
 obtain⟨o,h1,h2⟩:=cnt_out I (fun _=>False) (fun _=>False) N (fun j s hj hi=>by
  obtain⟨s',h3,h4⟩:=step j s hj hi
  exact⟨_,h3,h4⟩) N 0 s (by omega) h0
 match o,h2 with
 | .inr s',h2=>exact⟨s',h1,h2.resolve_right id⟩
theorem cnt_out0 {ρ σ:Type}{f:Int→σ→Option (ρ⊕(σ⊕σ))}(I:Nat→σ→Prop) (R:ρ→Prop) (B:σ→Prop) (N:Nat){s:σ}
 (h:I 0 s) (step:∀(j:Nat) s,j<N→I j s→∃o,f j s=some o∧(match o with
  | .inl r=>R r
  | .inr (.inl s')=>B s'
  | .inr (.inr s')=>I (j+1) s')):
 ∃o,cntM f N 0 s=some o∧(match o with
  | .inl r=>R r
  | .inr s'=>I N s'∨B s'):=cnt_out I R B N step N 0 s (by omega) h
theorem whileM_pos {ρ σ:Type}{f:σ→Option (ρ⊕(σ⊕σ))}{N:Nat}(h:0<N) (s:σ):whileM f N s=Option.bind (f s) (lpK (whileM f (N-1))):=by
 obtain⟨k,rfl⟩:∃k,N=k+1:=⟨N-1,by omega⟩
 rfl
theorem cnt_all {ρ α:Type}{f:Int→Unit→Option (ρ⊕(Unit⊕Unit))}{r:ρ}(g:α→Bool):∀(xs ys:List α) (j:Nat),(∀(i:Nat) x,xs[i]? =some x→f ((j+i:Nat):Int) ()=some (if g x then .inr (.inr ()) else .inl r)) →
 cntM f xs.length j ()=some (if xs.all g then .inr () else .inl r)
 | [],_,_,_=>rfl
 | x::xs,ys,j,h=>by
  have h0:=h 0 x rfl
  show Option.bind (f j ()) _=_
  rw[Nat.add_zero]at h0
  rw[h0]
  by_cases hg:g x=true
  · simp only[hg,if_true,Option.bind_some,lpK_nxt,List.all_cons,Bool.true_and]
    exact cnt_all g xs ys (j+1) fun i y hy=>by
     have:=h (i+1) y (by simpa using hy)
     rw[show j+1+i=j+(i+1) from by omega]
     exact this
  · simp[hg,lpK]
theorem cnt_all0 {ρ α:Type}{f:Int→Unit→Option (ρ⊕(Unit⊕Unit))}{r:ρ}(g:α→Bool){xs:List α}{n:Nat}(hn:n=xs.length) (h:∀(i:Nat) x,xs[i]? =some x→f (i:Int) ()=some (if g x then .inr (.inr ()) else .inl r)):
 cntM f n 0 ()=some (if xs.all g then .inr () else .inl r):=by
 subst hn
 exact cnt_all g xs xs 0 fun i x hx=>by rw[Nat.zero_add];exact h i x hx
theorem setI_nat {α:Type}{xs:List α}{i:Nat}{x:α}(h:i<xs.length):setI xs (i:Int) x=some (xs.set i x):=by
 unfold setI
 simp[h]
theorem mkS_nat {α:Type}{bytes:Nat}{m:Nat}{z:α}(h:m≤1048576) (hb:Nat.ble bytes 1024=true):mkS bytes (m:Int) z=some (List.replicate m z):=by
 have hb:=Nat.ble_eq.mp hb
 unfold mkS
 have:bytes * m≤1024 * 1048576:=Nat.mul_le_mul hb h
 simp
 omega
theorem cnt_find {ρ α:Type}{f:Int→Unit→Option (ρ⊕(Unit⊕Unit))}(g:α→Bool) (rr:Nat→ρ):∀(xs:List α) (j:Nat),(∀(i:Nat) x,xs[i]? =some x→f ((j+i:Nat):Int) ()=some (if g x then .inl (rr (j+i)) else .inr (.inr ()))) →
 cntM f xs.length j ()=some (match xs.findIdx? g with | some i=> .inl (rr (j+i)) | none=> .inr ())
 | [],_,_=>rfl
 | x::xs,j,h=>by
  have h0:=h 0 x rfl
  show Option.bind (f j ()) _=_
  rw[Nat.add_zero]at h0
  rw[h0,List.findIdx?_cons]
  by_cases hg:g x=true
  · simp[hg,lpK]
  · simp only[hg,Option.bind_some,lpK_nxt,Bool.false_eq_true,if_false]
    have ih:=cnt_find g rr xs (j+1) fun i y hy=>by
     have:=h (i+1) y (by simpa using hy)
     rw[show j+1+i=j+(i+1) from by omega]
     exact this
    have e:((j:Int)+1)=((j+1:Nat):Int):=by omega
    rw[e,ih]
    cases xs.findIdx? g with
    | none=>rfl
    | some i=>simp[show j+1+i=j+(i+1) from by omega]
theorem cnt_find0 {ρ α:Type}{f:Int→Unit→Option (ρ⊕(Unit⊕Unit))}(g:α→Bool) (rr:Nat→ρ){xs:List α}(h:∀(i:Nat) x,xs[i]? =some x→f (i:Int) ()=some (if g x then .inl (rr i) else .inr (.inr ()))):
 cntM f xs.length 0 ()=some (match xs.findIdx? g with | some i=> .inl (rr i) | none=> .inr ()):=by
 have:=cnt_find g rr xs 0 (f:=f) fun i x hx=>by rw[Nat.zero_add];exact h i x hx
 simpa using this
theorem findIdx_any {α:Type}(g:α→Bool) (xs:List α):decide ((0:Int)≤(match xs.findIdx? g with | some i=>(i:Int) | none=> -1))=xs.any g:=by
 cases h:xs.findIdx? g with
 | none=>
  rw[List.findIdx?_eq_none_iff]at h
  have:xs.any g=false:=by rw[List.any_eq_false];intro x hx;simp[h x hx]
  simp[this]
 | some i=>
  have h1:=List.findIdx?_isSome (p:=g) (xs:=xs)
  rw[h]at h1
  simp at h1
  have:xs.any g=true:=by rw[List.any_eq_true];exact h1
  rw[this]
  simp
end Go.Wk
