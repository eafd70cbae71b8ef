/- Sorting an own slice of numbers: the kit's contract in this frame. -/
import Derived.Test.YtleekpaohfpooaaGreatFbFW
import Derived.Sort.Grow
set_option linter.unusedVariables false
set_option linter.unusedSimpArgs false
open List renaming getElem?_eq_getElem → bJ
namespace Go.Wk
open Go
variable {κ:Col}{w:World}
theorem oW {k:IntKind}{F:Nat->Prop}:∀{xs:List Int}{S:Nat->Prop}{cells:List Value},LstO (Ep.int k) F w S cells xs↔cells=xs.map (Value.int k)
 | [],_,_=>Iff.rfl
 | x::r,S,cells=>by
  constructor
  · rintro⟨c1,c2,a,b,e,_,_,h1,h2⟩
    have h1:c1=[.int k x]:=h1
    rw[e,h1,oW.1 h2];rfl
  · intro e
    exact⟨[.int k x],r.map (Value.int k),λ_=>False,λ_=>False,e,λ_ h=>h.elim,λ_ h=>h.elim,rfl,oW.2 rfl⟩
theorem yz {P:Program}{f:FuncId}{T:TypeId}
 (F:∀(c off A:Nat) (zs:List Int) (w:World),Go.Sort.Holds (Value.int .i64) w c off zs.toArray->c<w.heap.size->zs.length<4611686018427387904 ->
  Calls P f #[.slice (some ⟨c,off,none⟩) zs.length A] w λe w'=>e= .returned (.tuple #[])/\∃n p,w'=Go.Sort.grow (Go.Sort.putRow (Value.int .i64) (Go.Sort.ahead w n) c off (zs.mergeSort λx y=>decide (x<=y)).toArray) p)
 {l:Option Addr} {k:Nat} {p0:List Int} (D:Oc (Ep.int .i64) T κ w 2 l k p0) (h0:0<p0.length) (h1:p0.length<4611686018427387904):
 Ret P f [.slice l p0.length k] w (λv w'=>∃(κ':Col),v= .tuple #[]/\Ent κ w κ' w'/\Oc (Ep.int .i64) T κ' w' 2 l k (p0.mergeSort λx y=>decide (x<=y))/\p0.length=(p0.mergeSort λx y=>decide (x<=y)).length):=by
 obtain⟨B,⟨K,S⟩,hb,Q⟩:=D
 have J:=oW.1 Q
 rcases S with ⟨_,e,_⟩ | ⟨g,o,a,e,m,W,L,t,u⟩
 · omega
 subst e
 have i:(Ep.int .i64).size=1:=rfl
 rw[i,Nat.mul_one]at K u t
 obtain⟨d,N⟩:=hb g rfl
 have s:κ g=2:=by simpa using N
 have H:∀j,j<p0.length->a[o+j]? =some (Value.int .i64 (p0.getD j 0)):=λj hj=>by
  have h2:B[j]? =some (Value.int .i64 (p0.getD j 0)):=by
   rw[J,List.getElem?_map,bJ hj,List.getD_eq_getElem?_getD,bJ hj];rfl
  rw[← u,List.getElem?_take,if_pos hj,List.getElem?_drop]at h2
  rw[← Array.getElem?_toList]
  exact h2
 have G:Go.Sort.Holds (Value.int .i64) w g o p0.toArray:=λj hj=>by
  have hj:j<p0.length:=by simpa using hj
  have C:p0.toArray[j]! =p0.getD j 0:=by
   rw[getElem!_pos _ j (by simpa using hj),List.getD_eq_getElem?_getD,bJ hj];simp
  rw[C]
  refine⟨?_,?_⟩
  · simp only[World.cell?,m]
    exact H j hj
  · simp only[World.frozen?,m]
    simp
 have r:(p0.mergeSort λx y=>decide (x<=y)).length=p0.length:=List.length_mergeSort ..
 refine Calls.mono (F g o k p0 w G d h1) λV w' ⟨M,n,p,z⟩=>⟨_,M,λb=>bif Nat.blt b w.heap.size then κ b else 2,rfl,?_,?_,r.symm⟩
 · subst z
   refine⟨rfl,rfl,rfl,?_,λb q hk=>⟨oR (Nat.ble_eq.mpr q),?_⟩⟩
   · simp[Go.Sort.grow,Go.Sort.putRow,Go.Sort.mapBlock,Go.Sort.ahead]
   · have R:g≠b:=λe=>by rw[← e,s]at hk;omega
     simp only[Go.Sort.grow,Go.Sort.putRow,Go.Sort.mapBlock,Go.Sort.ahead]
     rw[Array.getElem?_append_left (by simpa using q),Array.getElem?_modify,if_neg R]
 · subst z
   generalize hS:(p0.mergeSort λx y=>decide (x<=y))=ys at r ⊢
   have O:(Go.Sort.grow (Go.Sort.putRow (Value.int .i64) (Go.Sort.ahead w n) g o ys.toArray) p).heap[g]? =some (.cells (Go.Sort.putCells (Value.int .i64) o ys.toArray a) T (0,0)):=by
    simp only[Go.Sort.grow,Go.Sort.putRow,Go.Sort.mapBlock,Go.Sort.ahead]
    rw[Array.getElem?_append_left (by simpa using d),Array.getElem?_modify,if_pos rfl,m]
    rfl
   have U:(Go.Sort.putCells (Value.int .i64) o ys.toArray a).size=a.size:=by simp[Go.Sort.putCells]
   refine⟨ys.map (Value.int .i64),⟨by rw[List.length_map,i,Nat.mul_one],.inr ⟨g,o,_,rfl,O,by omega,L,by rw[U,i,Nat.mul_one];exact t,?_⟩⟩,λb I=>?_,oW.2 rfl⟩
   · rw[i,Nat.mul_one]
     apply List.ext_getElem?
     intro j
     rw[List.getElem?_take,List.getElem?_map]
     by_cases hj:j<ys.length
     · rw[if_pos hj,List.getElem?_drop,Array.getElem?_toList]
       simp only[Go.Sort.putCells,Array.getElem?_mapIdx]
       have E:a[o+j]? =some (a[o+j]'(by omega)):=Array.getElem?_eq_getElem (by omega)
       rw[E,Option.map_some,if_pos ⟨by omega,by simp;omega⟩,Nat.add_sub_cancel_left,getElem!_pos _ j (by simpa using hj),bJ hj]
       simp
     · rw[if_neg hj,List.getElem?_eq_none (by omega)];rfl
   · have:b=g:=by simpa [nb] using I
     subst this
     refine⟨Nat.lt_of_lt_of_le d ?_,?_⟩
     · simp[Go.Sort.grow,Go.Sort.putRow,Go.Sort.mapBlock,Go.Sort.ahead]
     · show(bif Nat.blt b w.heap.size then κ b else 2)∈[2]
       rw[show Nat.blt b w.heap.size=true from Nat.ble_eq.mpr d,cond_true,s];simp
theorem xn {P:Program}{f:FuncId}{T:TypeId}(i:∀(p:Option Addr) (d:Nat) (w:World),Calls P f #[.slice p 0 d] w λe w'=>e= .returned (.tuple #[])/\w'=w)
 {a:Option Addr} {b:Nat} {p0:List Int} (g:Oc (Ep.int .i64) T κ w 2 a b p0) (h0:p0.length=0):
 Ret P f [.slice a p0.length b] w (λv w'=>∃(κ':Col),v= .tuple #[]/\Ent κ w κ' w'/\Oc (Ep.int .i64) T κ' w' 2 a b p0/\p0.length=p0.length):=by
 rw[h0]
 refine Calls.mono (i a b w) λk w' ⟨j,c⟩=>⟨_,j,κ,rfl,?_,?_,rfl⟩
 · rw[c];exact Ent.refl _ _
 · rw[c];exact g
end Go.Wk
