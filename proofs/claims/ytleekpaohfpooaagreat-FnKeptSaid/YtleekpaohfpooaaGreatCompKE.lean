/- Leaving out equal neighbours of an own slice of numbers: the kit's contract in this frame. -/
import Derived.Test.YtleekpaohfpooaaGreatSortKE
import Derived.Lib.SlicesCompact
import Derived.Lib.RowBridge
set_option linter.unusedVariables false
set_option linter.unusedSimpArgs false
open List renaming getElem?_eq_getElem → gs
namespace Go.Wk
open Go
variable {κ:Col}{w:World}
theorem tF {P:Program}{f:FuncId}{T:TypeId}
 (hC:∀(blk off cap:Nat) (zs:List Int) (w:World),Go.Sort.Holds (Value.int .i64) w blk off zs.toArray->zs.length<=9223372036854775807->zs.length<=cap ->
  Calls P f #[.slice (some ⟨blk,off,none⟩) zs.length cap] w λe w'=>e= .returned (.slice (some ⟨blk,off,none⟩) (Go.Lib.compact zs).length cap)/\∃q,w'=Go.Sort.putRow (Value.int .i64) (Go.Sort.ahead w q) blk off (Go.Lib.compact zs++List.replicate (zs.length-(Go.Lib.compact zs).length) 0).toArray)
 {a0:Option Addr} {u0:Nat} {p0:List Int} (g0:Oc (Ep.int .i64) T κ w 2 a0 u0 p0) (h0:0<p0.length) (h1:p0.length<4611686018427387904):
 Ret P f [.slice a0 p0.length u0] w (λv w'=>∃(κ':Col) (ra0:Option Addr) (ru0:Nat),v= .slice ra0 (Go.Lib.compact p0).length ru0/\Ent κ w κ' w'/\Oc (Ep.int .i64) T κ' w' 2 ra0 ru0 (Go.Lib.compact p0)):=by
 obtain⟨cells,⟨hcl,hor⟩,hb,hlst⟩:=g0
 have hcells:=mI.1 hlst
 rcases hor with ⟨_,e,_⟩ | ⟨g,o,cur,e,hg,hnc,hcm,hsz,htk⟩
 · omega
 subst e
 have hsize:(Ep.int .i64).size=1:=rfl
 rw[hsize,Nat.mul_one]at hcl htk hsz
 obtain⟨hgs,hgc⟩:=hb g rfl
 have hq:κ g=2:=by simpa using hgc
 have hat:∀j,j<p0.length->cur[o+j]? =some (Value.int .i64 (p0.getD j 0)):=λj hj=>by
  have h2:cells[j]? =some (Value.int .i64 (p0.getD j 0)):=by
   rw[hcells,List.getElem?_map,gs hj,List.getD_eq_getElem?_getD,gs hj];rfl
  rw[← htk,List.getElem?_take,if_pos hj,List.getElem?_drop]at h2
  rw[← Array.getElem?_toList]
  exact h2
 have hH:Go.Sort.Holds (Value.int .i64) w g o p0.toArray:=λj hj=>by
  have hj:j<p0.length:=by simpa using hj
  have e1:p0.toArray[j]! =p0.getD j 0:=by
   rw[getElem!_pos _ j (by simpa using hj),List.getD_eq_getElem?_getD,gs hj];simp
  rw[e1]
  refine⟨?_,?_⟩
  · simp only[World.cell?,hg]
    exact hat j hj
  · simp only[World.frozen?,hg]
    simp
 have hle:=Go.Lib.compact_length_le p0
 refine Calls.mono (hC g o u0 p0 w hH (by omega) hnc) λex w' ⟨he,n,hw⟩=>⟨_,he,λb=>bif Nat.blt b w.heap.size then κ b else 2,some ⟨g,o,none⟩,u0,rfl,?_,?_⟩
 · subst hw
   refine⟨rfl,rfl,rfl,?_,λb hbl hk=>⟨po (Nat.ble_eq.mpr hbl),?_⟩⟩
   · simp[Go.Sort.putRow,Go.Sort.mapBlock,Go.Sort.ahead]
   · have hne:g≠b:=λe=>by rw[← e,hq]at hk;omega
     simp only[Go.Sort.putRow,Go.Sort.mapBlock,Go.Sort.ahead]
     rw[Array.getElem?_modify,if_neg hne]
 · subst hw
   generalize hS:Go.Lib.compact p0=ys at hle ⊢
   generalize hZ:(ys++List.replicate (p0.length-ys.length) 0)=zs
   have hzl:zs.length=p0.length:=by rw[← hZ];simp;omega
   have hzs:∀j,j<ys.length->zs[j]? =ys[j]?:=λj hj=>by rw[← hZ,List.getElem?_append_left hj]
   have hheap:(Go.Sort.putRow (Value.int .i64) (Go.Sort.ahead w n) g o zs.toArray).heap[g]? =some (.cells (Go.Sort.putCells (Value.int .i64) o zs.toArray cur) T (0,0)):=by
    simp only[Go.Sort.putRow,Go.Sort.mapBlock,Go.Sort.ahead]
    rw[Array.getElem?_modify,if_pos rfl,hg]
    rfl
   have hsz':(Go.Sort.putCells (Value.int .i64) o zs.toArray cur).size=cur.size:=by simp[Go.Sort.putCells]
   refine⟨ys.map (Value.int .i64),⟨by rw[List.length_map,hsize,Nat.mul_one],.inr ⟨g,o,_,rfl,hheap,by omega,hcm,by rw[hsz',hsize,Nat.mul_one];exact hsz,?_⟩⟩,λb hb'=>?_,mI.2 rfl⟩
   · rw[hsize,Nat.mul_one]
     apply List.ext_getElem?
     intro j
     rw[List.getElem?_take,List.getElem?_map]
     by_cases hj:j<ys.length
     · rw[if_pos hj,List.getElem?_drop,Array.getElem?_toList]
       simp only[Go.Sort.putCells,Array.getElem?_mapIdx]
       have h3:cur[o+j]? =some (cur[o+j]'(by omega)):=Array.getElem?_eq_getElem (by omega)
       have h4:=hzs j hj
       rw[gs (show j<zs.length by omega)]at h4
       rw[h3,Option.map_some,if_pos ⟨by omega,by simp;omega⟩,Nat.add_sub_cancel_left,getElem!_pos _ j (by simp;omega),← h4]
       simp
     · rw[if_neg hj,List.getElem?_eq_none (by omega)];rfl
   · have:b=g:=by simpa [nb] using hb'
     subst this
     refine⟨Nat.lt_of_lt_of_le hgs ?_,?_⟩
     · simp[Go.Sort.putRow,Go.Sort.mapBlock,Go.Sort.ahead]
     · show(bif Nat.blt b w.heap.size then κ b else 2)∈[2]
       rw[show Nat.blt b w.heap.size=true from Nat.ble_eq.mpr hgs,cond_true,hq];simp
end Go.Wk
