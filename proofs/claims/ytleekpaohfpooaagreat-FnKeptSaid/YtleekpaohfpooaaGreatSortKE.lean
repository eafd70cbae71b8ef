/- Sorting an own slice of numbers: the kit's contract in this frame. -/
import Derived.Test.YtleekpaohfpooaaGreatFbKE
import Derived.Sort.Grow
set_option linter.unusedVariables false
set_option linter.unusedSimpArgs false
open List renaming getElem?_eq_getElem → gs
namespace Go.Wk
open Go
variable {κ:Col}{w:World}
theorem mI {k:IntKind}{F:Nat->Prop}:∀{xs:List Int}{S:Nat->Prop}{cells:List Value},LstO (Ep.int k) F w S cells xs↔cells=xs.map (Value.int k)
 | [],_,_=>Iff.rfl
 | x::r,S,cells=>by
  constructor
  · rintro⟨c1,c2,S1,S2,e,_,_,h1,h2⟩
    have h1:c1=[.int k x]:=h1
    rw[e,h1,mI.1 h2];rfl
  · intro e
    exact⟨[.int k x],r.map (Value.int k),λ_=>False,λ_=>False,e,λ_ h=>h.elim,λ_ h=>h.elim,rfl,mI.2 rfl⟩
theorem xh {P:Program}{f:FuncId}{T:TypeId}
 (hC:∀(blk off cap:Nat) (zs:List Int) (w:World),Go.Sort.Holds (Value.int .i64) w blk off zs.toArray->blk<w.heap.size->zs.length<4611686018427387904 ->
  Calls P f #[.slice (some ⟨blk,off,none⟩) zs.length cap] w λe w'=>e= .returned (.tuple #[])/\∃n os,w'=Go.Sort.grow (Go.Sort.putRow (Value.int .i64) (Go.Sort.ahead w n) blk off (zs.mergeSort λx y=>decide (x<=y)).toArray) os)
 {a0:Option Addr} {u0:Nat} {p0:List Int} (g0:Oc (Ep.int .i64) T κ w 2 a0 u0 p0) (h0:0<p0.length) (h1:p0.length<4611686018427387904):
 Ret P f [.slice a0 p0.length u0] w (λv w'=>∃(κ':Col),v= .tuple #[]/\Ent κ w κ' w'/\Oc (Ep.int .i64) T κ' w' 2 a0 u0 (p0.mergeSort λx y=>decide (x<=y))/\p0.length=(p0.mergeSort λx y=>decide (x<=y)).length):=by
 obtain⟨cells,⟨hcl,hor⟩,hb,hlst⟩:=g0
 have hcells:=mI.1 hlst
 rcases hor with ⟨_,e,_⟩ | ⟨g,o,cur,e,hg,hnc,hcm,hsz,htk⟩
 · omega
 subst e
 have hsize:(Ep.int .i64).size=1:=rfl
 rw[hsize,Nat.mul_one]at hcl htk hsz
 obtain⟨hgs,hgc⟩:=hb g rfl
 have hq:κ g=2:=by simpa using hgc
 have hat:∀j,j<p0.length->cur[o+j]? =some (Value.int .i64 (p0.getD j 0)):=λj hj=>by
  have h2:cells[j]? =some (Value.int .i64 (p0.getD j 0)):=by
   rw[hcells,List.getElem?_map,gs hj,List.getD_eq_getElem?_getD,gs hj];rfl
  rw[← htk,List.getElem?_take,if_pos hj,List.getElem?_drop]at h2
  rw[← Array.getElem?_toList]
  exact h2
 have hH:Go.Sort.Holds (Value.int .i64) w g o p0.toArray:=λj hj=>by
  have hj:j<p0.length:=by simpa using hj
  have e1:p0.toArray[j]! =p0.getD j 0:=by
   rw[getElem!_pos _ j (by simpa using hj),List.getD_eq_getElem?_getD,gs hj];simp
  rw[e1]
  refine⟨?_,?_⟩
  · simp only[World.cell?,hg]
    exact hat j hj
  · simp only[World.frozen?,hg]
    simp
 have hlen:(p0.mergeSort λx y=>decide (x<=y)).length=p0.length:=List.length_mergeSort ..
 refine Calls.mono (hC g o u0 p0 w hH hgs h1) λex w' ⟨he,n,os,hw⟩=>⟨_,he,λb=>bif Nat.blt b w.heap.size then κ b else 2,rfl,?_,?_,hlen.symm⟩
 · subst hw
   refine⟨rfl,rfl,rfl,?_,λb hbl hk=>⟨po (Nat.ble_eq.mpr hbl),?_⟩⟩
   · simp[Go.Sort.grow,Go.Sort.putRow,Go.Sort.mapBlock,Go.Sort.ahead]
   · have hne:g≠b:=λe=>by rw[← e,hq]at hk;omega
     simp only[Go.Sort.grow,Go.Sort.putRow,Go.Sort.mapBlock,Go.Sort.ahead]
     rw[Array.getElem?_append_left (by simpa using hbl),Array.getElem?_modify,if_neg hne]
 · subst hw
   generalize hS:(p0.mergeSort λx y=>decide (x<=y))=ys at hlen ⊢
   have hheap:(Go.Sort.grow (Go.Sort.putRow (Value.int .i64) (Go.Sort.ahead w n) g o ys.toArray) os).heap[g]? =some (.cells (Go.Sort.putCells (Value.int .i64) o ys.toArray cur) T (0,0)):=by
    simp only[Go.Sort.grow,Go.Sort.putRow,Go.Sort.mapBlock,Go.Sort.ahead]
    rw[Array.getElem?_append_left (by simpa using hgs),Array.getElem?_modify,if_pos rfl,hg]
    rfl
   have hsz':(Go.Sort.putCells (Value.int .i64) o ys.toArray cur).size=cur.size:=by simp[Go.Sort.putCells]
   refine⟨ys.map (Value.int .i64),⟨by rw[List.length_map,hsize,Nat.mul_one],.inr ⟨g,o,_,rfl,hheap,by omega,hcm,by rw[hsz',hsize,Nat.mul_one];exact hsz,?_⟩⟩,λb hb'=>?_,mI.2 rfl⟩
   · rw[hsize,Nat.mul_one]
     apply List.ext_getElem?
     intro j
     rw[List.getElem?_take,List.getElem?_map]
     by_cases hj:j<ys.length
     · rw[if_pos hj,List.getElem?_drop,Array.getElem?_toList]
       simp only[Go.Sort.putCells,Array.getElem?_mapIdx]
       have h3:cur[o+j]? =some (cur[o+j]'(by omega)):=Array.getElem?_eq_getElem (by omega)
       rw[h3,Option.map_some,if_pos ⟨by omega,by simp;omega⟩,Nat.add_sub_cancel_left,getElem!_pos _ j (by simpa using hj),gs hj]
       simp
     · rw[if_neg hj,List.getElem?_eq_none (by omega)];rfl
   · have:b=g:=by simpa [nb] using hb'
     subst this
     refine⟨Nat.lt_of_lt_of_le hgs ?_,?_⟩
     · simp[Go.Sort.grow,Go.Sort.putRow,Go.Sort.mapBlock,Go.Sort.ahead]
     · show(bif Nat.blt b w.heap.size then κ b else 2)∈[2]
       rw[show Nat.blt b w.heap.size=true from Nat.ble_eq.mpr hgs,cond_true,hq];simp
theorem vo {P:Program}{f:FuncId}{T:TypeId}(hN:∀(p:Option Addr) (cap:Nat) (w:World),Calls P f #[.slice p 0 cap] w λe w'=>e= .returned (.tuple #[])/\w'=w)
 {a0:Option Addr} {u0:Nat} {p0:List Int} (g0:Oc (Ep.int .i64) T κ w 2 a0 u0 p0) (h0:p0.length=0):
 Ret P f [.slice a0 p0.length u0] w (λv w'=>∃(κ':Col),v= .tuple #[]/\Ent κ w κ' w'/\Oc (Ep.int .i64) T κ' w' 2 a0 u0 p0/\p0.length=p0.length):=by
 rw[h0]
 refine Calls.mono (hN a0 u0 w) λex w' ⟨he,hw⟩=>⟨_,he,κ,rfl,?_,?_,rfl⟩
 · rw[hw];exact Ent.refl _ _
 · rw[hw];exact g0
end Go.Wk
