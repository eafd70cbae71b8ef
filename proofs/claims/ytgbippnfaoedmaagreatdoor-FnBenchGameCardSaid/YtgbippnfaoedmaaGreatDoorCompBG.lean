/- Leaving out equal neighbours of an own slice of numbers: the kit's contract in this frame. -/
import Derived.Test.YtgbippnfaoedmaaGreatDoorSortBG
import Derived.Lib.SlicesCompact
import Derived.Lib.RowBridge
set_option linter.unusedVariables false
set_option linter.unusedSimpArgs false
open Go.Lib renaming compact → aO
open Go.Sort renaming ahead → aQ, mapBlock → b8, putCells → cf, putRow → ct
open List renaming getD_eq_getElem?_getD → mz, getElem?_eq_getElem → nx
open Nat renaming mul_one → pb
namespace Go.Wk
open Go
section
variable {J:Col}{w:World}
theorem sk {P:Program}{f:FuncId}{T:TypeId}
 (G:∀(l off o:Nat) (c:List Int) (w:World),Go.Sort.Holds (Value.int .i64) w l off c.toArray->c.length<=9223372036854775807->c.length<=o ->
  Calls P f #[.slice (some ⟨l,off,none⟩) c.length o] w λj k=>j= .returned (.slice (some ⟨l,off,none⟩) (aO c).length o)/\∃ae,k=ct (Value.int .i64) (aQ w ae) l off (aO c++List.replicate (c.length-(aO c).length) 0).toArray)
 {q:Option Addr} {n:Nat} {p0:List Int} (E:Oc (Ep.int .i64) T J w 2 q n p0) (ah:0<p0.length) (ai:p0.length<4611686018427387904):
 Ret P f [.slice q p0.length n] w (λaf k=>∃(B:Col) (z:Option Addr) (A:Nat),af= .slice z (aO p0).length A/\Ent J w B k/\Oc (Ep.int .i64) T B k 2 z A (aO p0)):=by
 obtain⟨C,⟨O,aa⟩,K,X⟩:=E
 have N:=kO.1 X
 rcases aa with ⟨_,j,_⟩|⟨d,e,i,j,p,Y,Q,v,x⟩
 .omega
 subst j
 have m:(Ep.int .i64).size=1:=rfl
 rw[m,pb]at O x v
 obtain⟨t,S⟩:=K d rfl
 have u:J d=2:=by simpa using S
 have I:∀a,a<p0.length->i[e+a]? =some (Value.int .i64 (p0.getD a 0)):=λa b=>by
  have r:C[a]? =some (Value.int .i64 (p0.getD a 0)):=by
   rw[N,List.getElem?_map,nx b,mz,nx b];rfl
  rw[← x,List.getElem?_take,if_pos b,List.getElem?_drop]at r
  rw[← Array.getElem?_toList]
  exact r
 have H:Go.Sort.Holds (Value.int .i64) w d e p0.toArray:=λa b=>by
  have b:a<p0.length:=by simpa using b
  have D:p0.toArray[a]! =p0.getD a 0:=by
   rw[getElem!_pos _ a (by simpa using b),mz,nx b];simp
  rw[D]
  refine⟨?_,?_⟩
  .simp only[World.cell?,p]
   exact I a b
  .simp only[World.frozen?,p]
   simp
 have W:=Go.Lib.compact_length_le p0
 refine Calls.mono (G d e n p0 w H (by omega) Y) λag k ⟨R,ad,y⟩=>⟨_,R,λg=>bif Nat.blt g w.heap.size then J g else 2,some ⟨d,e,none⟩,n,rfl,?_,?_⟩
 .subst y
  refine⟨rfl,rfl,rfl,?_,λg M V=>⟨lS (Nat.ble_eq.mpr M),?_⟩⟩
  .simp[ct,b8,aQ]
  .have Z:d≠g:=λj=>by rw[← j,u]at V;omega
   simp only[ct,b8,aQ]
   rw[Array.getElem?_modify,if_neg Z]
 .subst y
  generalize hS:aO p0=ys at W ⊢
  generalize hZ:(ys++List.replicate (p0.length-ys.length) 0)=c
  have aj:c.length=p0.length:=by rw[← hZ];simp;omega
  have ac:∀a,a<ys.length->c[a]? =ys[a]?:=λa b=>by rw[← hZ,List.getElem?_append_left b]
  have U:(ct (Value.int .i64) (aQ w ad) d e c.toArray).heap[d]? =some (.cells (cf (Value.int .i64) e c.toArray i) T (0,0)):=by
   simp only[ct,b8,aQ]
   rw[Array.getElem?_modify,if_pos rfl,p]
   rfl
  have ab:(cf (Value.int .i64) e c.toArray i).size=i.size:=by simp[cf]
  refine⟨ys.map (Value.int .i64),⟨by rw[List.length_map,m,pb],.inr ⟨d,e,_,rfl,U,by omega,Q,by rw[ab,m,pb];exact v,?_⟩⟩,λg L=>?_,kO.2 rfl⟩
  .rw[m,pb]
   apply List.ext_getElem?
   intro a
   rw[List.getElem?_take,List.getElem?_map]
   by_cases b:a<ys.length
   .rw[if_pos b,List.getElem?_drop,Array.getElem?_toList]
    simp only[cf,Array.getElem?_mapIdx]
    have F:i[e+a]? =some (i[e+a]'(by omega)):=Array.getElem?_eq_getElem (by omega)
    have s:=ac a b
    rw[nx (show a<c.length by omega)]at s
    rw[F,Option.map_some,if_pos ⟨by omega,by simp;omega⟩,Nat.add_sub_cancel_left,getElem!_pos _ a (by simp;omega),← s]
    simp
   .rw[if_neg b,List.getElem?_eq_none (by omega)];rfl
  .have:g=d:=by simpa [nb] using L
   subst this
   refine⟨Nat.lt_of_lt_of_le t ?_,?_⟩
   .simp[ct,b8,aQ]
   .show(bif Nat.blt g w.heap.size then J g else 2)∈[2]
    rw[show Nat.blt g w.heap.size=true from Nat.ble_eq.mpr t,cond_true,u];simp
end
end Go.Wk
